import PyProof.Rows.All
import Wide.All
import OpenK.AllK
import Wide.FinOn
import KE.KStateDown
import Lean
import HandS.ForMost
import HandS.ForExc
import HandS.Words
import HandS.WordsExc
import HandS.Defaults
import HandS.Deep
import HandS.TupAny
import HandS.Conv
import HandS.StrMore
import HandS.ExcOwn
import HandS.CallSlots
import HandS.Head0
import HandS.Head1
import HandS.Head2
import HandS.HeadEnd
import HandS.HeadHook1
import HandS.HeadHook2
import HandS.HeadHook3
import HandS.ExcInit
import HandS.ExcField
import HandS.ExcIs
import KE.KExcSuper
import KE.KItemsList
import PyProof.ZipIter
import PyProof.Rows.ZipGen
import PyProof.WalksMore
import HandS.Zip0
import HandS.Base
import HandS.Call
import HandS.List
import HandS.Dict
import HandS.Iter
import HandS.Zip
import HandS.ListItems
import KE.KDictKeyed
import HandS.IsInst
import HandS.WordsDict
import HandS.NoneIn
import HandS.ClsMeth
import HandS.Property
import HandS.Star
import HandS.Nested
import KE.GoesEnum
import KE.GoesMore
import HandS.Text
import HandS.MakeKwOnly
import PyProof.FactsLen
import HandS.Strs
import PyProof.StrLawsTight
import PySem.Challenge.RW_heldcalls_k47_shortest_lock_cycle
set_option Elab.async false
set_option linter.all false
set_option maxRecDepth 100000
set_option maxHeartbeats 4000000
namespace Ev
open PySem PySem.Spec PyProof.Rows L2
/-- a def behind a record (a property's, a classmethod's) -/
structure PfD where
  cls : Str
  meth : Str
  kind : String
  d : He.DefD
def recA (K : PySem.W.Frag) (C m : Str) (T : String) : Addr := match PySem.W.recIn K (He.ma K (He.ga K C) m) T with
  | some (.ref g :: _) => g
  | _ => 0
def PfD.addr (K : PySem.W.Frag) (q : PfD) : Addr := if q.kind = "init" then He.ma K (He.ga K q.cls) q.meth else recA K q.cls q.meth q.kind
def fnA (K : PySem.W.Frag) (kd : String) (a : Addr) : He.FnW := match K.lookup a with
  | some ⟨_, _, .func fd, _⟩ => some (fd.name, fd.qualname, fd.params, fd.body, fd.scope, fd.globals, if kd = "init" then [] else fd.closure, fd.builtins)
  | _ => none
def okA (K : PySem.W.Frag) (a : Addr) (d : He.DefD) : Bool := PySem.W.keepIn K (.ref a) && (match K.lookup a with
  | some ⟨_, _, .func fd, _⟩ => PySem.W.codeIn K fd.code d.qual && (He.dflB K fd.defaults (d.dvs K) && He.kwdB K fd.kwdefaults (d.kws K))
  | _ => false)
abbrev AlH : Type := He.AlT × Bool × List He.FnW
def obsH (fa : List He.Fa) (fn : List He.DefD) (ts : List He.Tab) (pf : List PfD) (ex : PySem.W.Frag → Bool) (K : PySem.W.Frag) : AlH := (He.obsT fa fn ts K, (pf.all fun q => okA K (q.addr K) q.d) && ex K, pf.map fun q => fnA K q.kind (q.addr K))
def valH (fn : List He.DefD) (ts : List He.Tab) (pf : List PfD) (w : World) : AlH := (He.valT fn ts w, true, pf.map fun q => q.d.val)
def SaysH (fa : List He.Fa) (fn : List He.DefD) (ts : List He.Tab) (pf : List PfD) (ex : PySem.W.Frag → Bool) (w : World) (K : PySem.W.Frag) : Prop := obsH fa fn ts pf ex K = valH fn ts pf w
def obsHG (n : Nat) (fa : List He.Fa) (fn : List He.DefD) (ts : List He.Tab) (pf : List PfD) (ex : PySem.W.Frag → Bool) (g : Addr → Option Obj) : AlH := obsH fa fn ts pf ex (He.frG g (PySem.cStatics :: He.asD g n))
def hookH (n : Nat) (fa : List He.Fa) (fn : List He.DefD) (ts : List He.Tab) (pf : List PfD) (ex : PySem.W.Frag → Bool) : PySem.W.Hook where
  α := AlH
  obs := fun s => obsHG n fa fn ts pf ex s.heap.get?
  val := fun w => valH fn ts pf w
  says := fun w h => ∃ K : PySem.W.Frag, K.In h ∧ SaysH fa fn ts pf ex w K
  of := fun _ _ e => ⟨_, He.frG_in, e⟩
  keeps := fun _ _ _ ⟨K, hK, c⟩ k => ⟨K, PySem.W.Frag.In.keeps hK k, c⟩
theorem obsHG_eq {n : Nat} {fa : List He.Fa} {fn : List He.DefD} {ts : List He.Tab} {pf : List PfD} {ex : PySem.W.Frag → Bool} {g : Addr → Option Obj} {s : Shared} (h : ∀ a, g a = s.heap.get? a) : obsHG n fa fn ts pf ex g = (hookH n fa fn ts pf ex).obs s := by
  have e : g = s.heap.get? := funext h
  rw [e] <;> rfl
def propB (K : PySem.W.Frag) (C m : Str) : Bool := He.eqO (PySem.W.findIn K (.ref (He.ga K C)) m) (some (some (.ref (He.ma K (He.ga K C) m)))) && (He.eqO (PySem.W.specialIn K (.ref (He.ma K (He.ga K C) m)) "__get__") (some (some (.builtin "property.__get__"))) &&
  (decide (PySem.W.takesIn K (.ref (He.ma K (He.ga K C) m)) = some true) && (match PySem.W.recIn K (He.ma K (He.ga K C) m) "property" with
    | some (.ref _ :: _) => true
    | _ => false)))
def creadB (K : PySem.W.Frag) (C : Str) : Bool := PySem.W.readsIn K (He.ga K C) (.type "type") && He.eqO (PySem.W.specialIn K (.ref (He.ga K C)) "__getattribute__") (some (some (.builtin "type.__getattribute__")))
def cmetB (K : PySem.W.Frag) (C m : Str) : Bool := (match PySem.W.findCls K (.ref (He.ga K C)) (.type "type") m with
    | some (.get (.builtin s) (.ref p) .none (.ref D)) => decide (s = "classmethod.__get__" ∧ p = He.ma K (He.ga K C) m ∧ D = He.ga K C)
    | _ => false) && ((match PySem.W.recIn K (He.ma K (He.ga K C) m) "classmethod" with
    | some (.ref _ :: _) => true
    | _ => false) && PySem.W.fnIn K (recA K C m "classmethod"))
def cintB (K : PySem.W.Frag) (C f : Str) (i : Int) : Bool :=
  PySem.W.readsIn K (He.ga K C) (.type "type") && (He.eqO (PySem.W.specialIn K (.ref (He.ga K C)) "__getattribute__") (some (some (.builtin "type.__getattribute__"))) &&
    (match PySem.W.findCls K (.ref (He.ga K C)) (.type "type") f with
      | some (.val (.int j _)) => decide (j = i)
      | _ => false))
/-- an own error class that an __init__ of D makes -/
def oexB (K : PySem.W.Frag) (C : Addr) : Bool := (match K.lookup C with
  | some ⟨.type ty, _, .cls cd, sl⟩ => (match cd.mro, sl.toList with
    | .ref C' :: bm, [_, _, _, _, some (.builtin n), _] => decide (ty = "type") && (decide (C' = C) && (decide (n = "ValueError.__new__") && (!cd.hasDel && (cd.hasDict && PySem.HandSPX.refsVE bm))))
    | _, _ => false)
  | _ => false) && (He.eqO (PySem.W.findIn K (.ref C) "__setattr__") (some (some (.builtin "object.__setattr__"))) && (decide (PySem.W.subIn K (.ref C) (.type "BaseException") = some true) && (decide (PySem.W.typeIn K (.ref C) = some (.type "type")) && PySem.W.keepIn K (.ref C))))
def iniCB (K : PySem.W.Frag) (D C : Addr) (flds : List Str) : Bool := oexB K C && (He.eqO (PySem.W.ks_superIn K C D "__init__") (some (some (.builtin "ValueError.__init__"))) && (decide (PySem.W.mroIn K C (.ref D) = some true) && (decide (PySem.W.subIn K (.ref C) (.type "ValueError") = some true) && flds.all fun f => He.eqO (PySem.W.findIn K (.ref C) f) (some none))))
def iniKB (K : PySem.W.Frag) (D : Addr) (qual file : Str) : Bool := (match K.lookup (He.ma K D "__init__") with
  | some ⟨_, _, .func fd, _⟩ => (match fd.closure, fd.code with
    | [(n, cc)], .ref cda => decide (n = "__class__") && (fd.annotations.isNone && ((match K.lookup cc with
      | some ⟨_, _, .cell (some (.ref D')), _⟩ => decide (D' = D)
      | _ => false) && (match K.lookup cda with
      | some ⟨_, _, .fields vs, _⟩ => (match vs.toList with
        | _ :: _ :: .str f _ :: _ => f == file
        | _ => false)
      | _ => false)))
    | _, _ => false)
  | _ => false) && (He.eqO (PySem.W.nsIn K mainGlobals "super") (some none) && (He.eqO (PySem.W.nsIn K cStatics "thirdparty.any") (some none) && ((PySem.W.clsIn K D).isSome && decide (PySem.W.typeIn K (.ref (He.ma K D "__init__")) = some (.type "function")))))
def xclB (K : PySem.W.Frag) (C : Addr) (flds : List Str) : Bool := xfB K C && (He.eqO (PySem.W.findIn K (.ref C) "__class__") (some (some (.builtin "object.__class__"))) && (He.eqO (PySem.W.specialIn K (.builtin "object.__class__") "__get__") (some (some (.builtin "getset_descriptor.__get__"))) && (decide (PySem.W.takesIn K (.builtin "object.__class__") = some true) &&
  (decide (PySem.W.mroIn K C (.type "object") = some true) && flds.all fun f => He.eqO (PySem.W.findIn K (.ref C) f) (some none)))))
def exmB (K : PySem.W.Frag) (ts : List (Str × Bool)) (C : Str) : Bool := ts.all fun q => decide (PySem.W.exmOne K (.ref (He.ga K q.1)) (.ref (He.ga K C)) = some q.2)
def kitB (K : PySem.W.Frag) (ts : List (Str × Bool)) (C : Str) : Bool := ts.all fun q => decide (PySem.W.kitOne K (.ref (He.ga K q.1)) (.ref (He.ga K C)) = some q.2)
def kitTB (K : PySem.W.Frag) (ts : List (Str × Bool)) (T : String) : Bool := ts.all fun q => decide (PySem.W.kitOne K (.ref (He.ga K q.1)) (.type T) = some q.2)
def iniFB (K : PySem.W.Frag) (D C : Str) : Bool := He.eqO (PySem.W.findIn K (.ref (He.ga K C)) "__init__") (some (some (.ref (He.ma K (He.ga K D) "__init__"))))
/-- an own error class without __init__ -/
def xoB (K : PySem.W.Frag) (C : Str) : Bool := PySem.W.excIn K (He.ga K C) [.type "ValueError", .type "Exception", .type "BaseException", .type "object"] "ValueError.__new__" && (PySem.W.keepIn K (.ref (He.ga K C)) && (decide (PySem.W.subIn K (.ref (He.ga K C)) (.type "BaseException") = some true) && decide (PySem.W.typeIn K (.ref (He.ga K C)) = some (.type "type"))))
/-- the class stands first in its mro -/
def selB (K : PySem.W.Frag) (C : Str) : Bool := match PySem.W.clsIn K (He.ga K C) with
  | some cd => (match cd.mro with
    | .ref C' :: _ => decide (C' = He.ga K C)
    | _ => false)
  | none => false
/-- the empty tuple of the text -/
def tup0B (K : PySem.W.Frag) (a : Addr) : Bool := match K.lookup a with
  | some ⟨.type ty, _, .seq its _, _⟩ => decide (ty = "tuple") && its.toList.isEmpty
  | _ => false
/-- the head's run, looked at in five parts (the kernel's memory) -/
theorem run_join {σ β : Type} {x : Option σ} {A : σ → Bool} {B : σ → β} {KS : σ → PySem.W.Frag} {ob : σ → AlH} {fa : List He.Fa} {fn : List He.DefD} {ts : List He.Tab} {pf : List PfD} {ex : PySem.W.Frag → Bool} {vb : β} {w : World} (e : ∀ s, ob s = obsH fa fn ts pf ex (KS s))
    (h0 : x.map A = some true) (h5 : x.map B = some vb)
    (h1 : x.map (fun s => (ts.map (fun t => He.dicW (KS s) (t.1 (KS s))), fa.all fun f => f.ok (KS s))) = some (ts.map (fun t => some (He.keysIn w.params t.2)), true))
    (h2 : x.map (fun s => (fn.all fun d => d.ok (KS s), fn.map fun d => He.fnW (KS s) d.at_)) = some (true, fn.map He.DefD.val))
    (h3 : x.map (fun s => ((pf.all fun q => okA (KS s) (q.addr (KS s)) q.d) && ex (KS s), pf.map fun q => fnA (KS s) q.kind (q.addr (KS s)))) = some (true, pf.map fun q => q.d.val)) :
    x.map (fun s => (A s, B s, ob s)) = some (true, vb, valH fn ts pf w) := by
  cases x with
  | none => cases h0
  | some s =>
    have a1 : A s = true := Option.some.inj h0
    have a2 : B s = vb := Option.some.inj h5
    obtain ⟨a3, h1⟩ := Prod.mk.inj (Option.some.inj h1)
    obtain ⟨b1, b2⟩ := Prod.mk.inj (Option.some.inj h2)
    obtain ⟨c1, c2⟩ := Prod.mk.inj (Option.some.inj h3)
    show some (A s, B s, ob s) = _
    rw [e s, a1, a2]
    unfold obsH valH He.obsT He.valT He.obsD He.valD
    rw [a3, b1, b2, c1, c2, h1]
    rfl
end Ev

set_option maxHeartbeats 4000000
namespace Z
open PySem PySem.Spec PyProof.Rows L2 Ev
def top (i : Nat) : Stmt := PySem.Challenge.pw_heldcalls_k47_shortest_lock_cycle.main.body.getD i (.Pass ⟨0, 0, 0, 0⟩)
def d_longer_rows : He.DefD := ⟨("longer_rows", none), "longer_rows", "longer_rows", defArgs (top 1), defBody (top 1), defScope (top 1), [], []⟩
def d_shortest_lock_cycle : He.DefD := ⟨("shortest_lock_cycle", none), "shortest_lock_cycle", "shortest_lock_cycle", defArgs (top 2), defBody (top 2), defScope (top 2), [], []⟩
def d_law_numbers : He.DefD := ⟨("_law_numbers", none), "_law_numbers", "_law_numbers", defArgs (top 4), defBody (top 4), defScope (top 4), [], []⟩
def d_law_names : He.DefD := ⟨("_law_names", none), "_law_names", "_law_names", defArgs (top 5), defBody (top 5), defScope (top 5), [], []⟩
def d_law_leaf : He.DefD := ⟨("_law_leaf", none), "_law_leaf", "_law_leaf", defArgs (top 6), defBody (top 6), defScope (top 6), [], []⟩
def d_law_same : He.DefD := ⟨("_law_same", none), "_law_same", "_law_same", defArgs (top 7), defBody (top 7), defScope (top 7), [], []⟩
def d_law_pairs : He.DefD := ⟨("_law_pairs", none), "_law_pairs", "_law_pairs", defArgs (top 8), defBody (top 8), defScope (top 8), [], []⟩
def d_law_circle : He.DefD := ⟨("_law_circle", none), "_law_circle", "_law_circle", defArgs (top 9), defBody (top 9), defScope (top 9), [], []⟩
def d_law_due : He.DefD := ⟨("_law_due", none), "_law_due", "_law_due", defArgs (top 10), defBody (top 10), defScope (top 10), [], []⟩
def d_law : He.DefD := ⟨("law", none), "law", "law", defArgs (top 11), defBody (top 11), defScope (top 11), [], []⟩
def fn : List He.DefD := [d_longer_rows, d_shortest_lock_cycle, d_law_numbers, d_law_names, d_law_leaf, d_law_same, d_law_pairs, d_law_circle, d_law_due, d_law]
def pf : List PfD := []
def fa0 : List He.Fa := [.free "len", .free "int", .free "abs", .free "range", .free "isinstance", .free "bool", .free "str", .free "tuple", .free "list", .free "zip", .glo "longer_rows", .glo "shortest_lock_cycle", .glo "_law_numbers", .glo "_law_names", .glo "_law_leaf", .glo "_law_same", .glo "_law_pairs", .glo "_law_circle", .glo "_law_due", .glo "law"]
def fa : List He.Fa := fa0
def ts : List He.Tab := []
def ex (K : PySem.W.Frag) : Bool := true
abbrev R : PySem.W.OpenRow := PySem.W.OpenLaw.row PySem.Challenge.rw_heldcalls_k47_shortest_lock_cycle
abbrev hk : PySem.W.Hook := hookH 5 fa fn ts pf ex
def ob (s : PySem.W.SharedT) : AlH := obsHG 5 fa fn ts pf ex (HandSHeadRun.getT s)
theorem ob_eq (s : PySem.W.SharedT) : ob s = hk.obs s.abs := obsHG_eq (HandSHeadRun.getT_eq s)
def loose : List PySem.Str := (["longer_rows", "shortest_lock_cycle", "_law_numbers", "_law_names", "_law_leaf", "_law_same", "_law_pairs", "_law_circle", "_law_due"] : List PySem.Str)
set_option maxHeartbeats 0
def KS (s : PySem.W.SharedT) : PySem.W.Frag := He.frG (HandSHeadRun.getT s) (PySem.cStatics :: He.asD (HandSHeadRun.getT s) 5)
theorem obK (s : PySem.W.SharedT) : ob s = obsH fa fn ts pf ex (KS s) := by
  unfold ob obsHG KS
  rfl
open PySem.W PySem.Calls HandSHeadRun
theorem run1_0 (w : World) (os : OsState) : (endF (stepQ (denQ tabQ) R.prog (w.withFollow "special-get-raises" false)) 12000 R.prog (w.withFollow "special-get-raises" false) os).map (fun s => looksF R.prog (boot_heap ((w.withFollow "special-get-raises" false)).params) s.abs) = some (true) := by kernel_rfl
theorem run1_1 (w : World) (os : OsState) : (endF (stepQ (denQ tabQ) R.prog (w.withFollow "special-get-raises" false)) 12000 R.prog (w.withFollow "special-get-raises" false) os).map (fun s => seenQ (PySem.W.view R.prog [11]) loose (importedModules R.prog.main.body) (fun s => xlAt (PySem.W.view R.prog [11]) [] s && recOk R.toRowW.records s) s.abs) = some (openGood (PySem.W.view R.prog [11]) loose) := by kernel_rfl
theorem run1_2 (w : World) (os : OsState) : (endF (stepQ (denQ tabQ) R.prog (w.withFollow "special-get-raises" false)) 12000 R.prog (w.withFollow "special-get-raises" false) os).map (fun s => (ts.map (fun t => He.dicW (KS s) (t.1 (KS s))), fa.all fun f => f.ok (KS s))) = some ((ts.map (fun t => some (He.keysIn ((w.withFollow "special-get-raises" false)).params t.2)), true)) := by kernel_rfl
theorem run1_3 (w : World) (os : OsState) : (endF (stepQ (denQ tabQ) R.prog (w.withFollow "special-get-raises" false)) 12000 R.prog (w.withFollow "special-get-raises" false) os).map (fun s => (fn.all fun d => d.ok (KS s), fn.map fun d => He.fnW (KS s) d.at_)) = some ((true, fn.map He.DefD.val)) := by kernel_rfl
theorem run1_4 (w : World) (os : OsState) : (endF (stepQ (denQ tabQ) R.prog (w.withFollow "special-get-raises" false)) 12000 R.prog (w.withFollow "special-get-raises" false) os).map (fun s => ((pf.all fun q => okA (KS s) (q.addr (KS s)) q.d) && ex (KS s), pf.map fun q => fnA (KS s) q.kind (q.addr (KS s)))) = some ((true, pf.map fun q => q.d.val)) := by kernel_rfl
theorem run1 (w : World) : HandSHeadRun.RunEq R (PySem.W.view R.prog [11]) hk ob 12000 loose (w.withFollow "special-get-raises" false) := by
  intro os
  have z := @run_join _ _ (endF (stepQ (denQ tabQ) R.prog (w.withFollow "special-get-raises" false)) 12000 R.prog (w.withFollow "special-get-raises" false) os) (fun s => looksF R.prog (boot_heap ((w.withFollow "special-get-raises" false)).params) s.abs) (fun s => seenQ (PySem.W.view R.prog [11]) loose (importedModules R.prog.main.body) (fun s => xlAt (PySem.W.view R.prog [11]) [] s && recOk R.toRowW.records s) s.abs) KS ob fa fn ts pf ex (openGood (PySem.W.view R.prog [11]) loose) (w.withFollow "special-get-raises" false) obK (run1_0 w os) (run1_1 w os) (run1_2 w os) (run1_3 w os) (run1_4 w os)
  exact z
theorem run2_0 (w : World) (os : OsState) : (endF (stepQ (denQ tabQ) R.prog (w.withFollow "special-get-raises" true)) 12000 R.prog (w.withFollow "special-get-raises" true) os).map (fun s => looksF R.prog (boot_heap ((w.withFollow "special-get-raises" true)).params) s.abs) = some (true) := by kernel_rfl
theorem run2_1 (w : World) (os : OsState) : (endF (stepQ (denQ tabQ) R.prog (w.withFollow "special-get-raises" true)) 12000 R.prog (w.withFollow "special-get-raises" true) os).map (fun s => seenQ (PySem.W.view R.prog [11]) loose (importedModules R.prog.main.body) (fun s => xlAt (PySem.W.view R.prog [11]) [] s && recOk R.toRowW.records s) s.abs) = some (openGood (PySem.W.view R.prog [11]) loose) := by kernel_rfl
theorem run2_2 (w : World) (os : OsState) : (endF (stepQ (denQ tabQ) R.prog (w.withFollow "special-get-raises" true)) 12000 R.prog (w.withFollow "special-get-raises" true) os).map (fun s => (ts.map (fun t => He.dicW (KS s) (t.1 (KS s))), fa.all fun f => f.ok (KS s))) = some ((ts.map (fun t => some (He.keysIn ((w.withFollow "special-get-raises" true)).params t.2)), true)) := by kernel_rfl
theorem run2_3 (w : World) (os : OsState) : (endF (stepQ (denQ tabQ) R.prog (w.withFollow "special-get-raises" true)) 12000 R.prog (w.withFollow "special-get-raises" true) os).map (fun s => (fn.all fun d => d.ok (KS s), fn.map fun d => He.fnW (KS s) d.at_)) = some ((true, fn.map He.DefD.val)) := by kernel_rfl
theorem run2_4 (w : World) (os : OsState) : (endF (stepQ (denQ tabQ) R.prog (w.withFollow "special-get-raises" true)) 12000 R.prog (w.withFollow "special-get-raises" true) os).map (fun s => ((pf.all fun q => okA (KS s) (q.addr (KS s)) q.d) && ex (KS s), pf.map fun q => fnA (KS s) q.kind (q.addr (KS s)))) = some ((true, pf.map fun q => q.d.val)) := by kernel_rfl
theorem run2 (w : World) : HandSHeadRun.RunEq R (PySem.W.view R.prog [11]) hk ob 12000 loose (w.withFollow "special-get-raises" true) := by
  intro os
  have z := @run_join _ _ (endF (stepQ (denQ tabQ) R.prog (w.withFollow "special-get-raises" true)) 12000 R.prog (w.withFollow "special-get-raises" true) os) (fun s => looksF R.prog (boot_heap ((w.withFollow "special-get-raises" true)).params) s.abs) (fun s => seenQ (PySem.W.view R.prog [11]) loose (importedModules R.prog.main.body) (fun s => xlAt (PySem.W.view R.prog [11]) [] s && recOk R.toRowW.records s) s.abs) KS ob fa fn ts pf ex (openGood (PySem.W.view R.prog [11]) loose) (w.withFollow "special-get-raises" true) obK (run2_0 w os) (run2_1 w os) (run2_2 w os) (run2_3 w os) (run2_4 w os)
  exact z
theorem run (w : World) : HandSHeadRun.RunEq R (PySem.W.view R.prog [11]) hk ob 12000 loose w := PySem.W.byRow2 "special-get-raises" (P := fun w => HandSHeadRun.RunEq R (PySem.W.view R.prog [11]) hk ob 12000 loose w) run1 run2 w
end Z

set_option maxHeartbeats 4000000
namespace PySem
open Sem (wp)
namespace ZL
open PySem.F
abbrev Zp (h : Heap) (z TI TO : Addr) (f0 f1 : Value) : Prop := h.get? z = some { cls := .type "zip", data := .fields #[f0, f1, .bool false, .ref TI, .ref TO] }
variable {prog : Program} {w : World} {A : Around} {E : Value → Shared → Prop} {s : Shared}
theorem free_no {z TI TO T : Addr} {oT : Obj} {fl : Bool} {Q : Bool → Shared → Prop} (hz : Zp s.heap z TI TO (rawInt T) (.bool fl)) (hT : s.heap.get? T = some oT)
    (hQ : ∀ h', Zp h' z TI TO (rawInt T) (.bool true) → h'.objs.size = s.heap.objs.size → (∀ c o, c ≠ z → s.heap.get? c = some o → h'.get? c = some o) → Q false { s with heap := h' }) : wpAny (model prog w) A (Builtin.SmallTypes.ownedTupleIsFree (.ref z)) Q E s := by
  unfold Builtin.SmallTypes.ownedTupleIsFree
  refine wpAny_bind (wpAny_field hz rfl (x := rawInt T) rfl ?_)
  refine wpAny_bind (W.kdx_alive hT ?_)
  rw [if_neg (by simp)]
  refine wpAny_bind (wpAny_field hz rfl (x := .bool fl) rfl ?_)
  cases fl with
  | true =>
    rw [if_neg (by decide)]
    exact wpAny_bind (wpAny_pure (wpAny_pure (hQ s.heap hz rfl fun _ _ _ e => e)))
  | false =>
    rw [if_pos (by decide)]
    refine wpAny_bind (wpAny_setField_rec hz (by simp) fun h₁ hz₁ hs₁ => ?_)
    exact wpAny_pure (hQ h₁ hz₁ hs₁.1 fun c o ne e => hs₁.extBut _ _ ne e)
theorem next_out {z TI TO i1 i2 l1 l2 T : Addr} {k1 k2 : Nat} {xs ys : Array Value} {x y : Value} {oT : Obj} {fl : Bool} {Q : Value → Shared → Prop} (D : ZipApart z TI TO i1 i2 l1 l2)
    (hz : Zp s.heap z TI TO (rawInt T) (.bool fl)) (hT : s.heap.get? T = some oT) (hTI : IsPair s.heap TI (.ref i1) (.ref i2))
    (h1 : s.heap.IsListIter i1 l1 k1) (h2 : s.heap.IsListIter i2 l2 k2) (hl1 : s.heap.IsList l1 xs) (hl2 : s.heap.IsList l2 ys) (hx : xs[k1]? = some x) (hy : ys[k2]? = some y) (hTz : T ≠ z)
    (hQ : ∀ h', Zp h' z TI TO (rawInt T) (.bool true) → h'.IsListIter i1 l1 (k1 + 1) → h'.IsListIter i2 l2 (k2 + 1) → IsPair h' s.heap.objs.size x y → h'.objs.size = s.heap.objs.size + 1 →
      (∀ c o, c ≠ z → c ≠ i1 → c ≠ i2 → s.heap.get? c = some o → h'.get? c = some o) → Q (.ref s.heap.objs.size) { s with heap := h' }) :
    wpAny (model prog w) A (Builtin.«zip.__next__» ⟨[.ref z], []⟩) (fun fin s' => ∃ v, fin = .done (.ret v) ∧ Q v s') E s := by
  show wpAny _ _ (field (.ref z) 2 >>= _) _ _ _
  refine wpAny_bind (wpAny_field hz rfl (x := .bool false) rfl ?_)
  show wpAny _ _ (field (.ref z) 3 >>= _) _ _ _
  refine wpAny_bind (wpAny_field hz rfl (x := .ref TI) rfl ?_)
  refine wpAny_bind (wpAny_seqItems hTI rfl ?_)
  show wpAny _ _ (Builtin.SmallTypes.ownedTupleIsFree (.ref z) >>= _) _ _ _
  refine wpAny_bind (free_no hz hT fun h₀ hz₀ hn₀ hs₀ => ?_)
  rw [if_neg (by decide)]
  show wpAny _ _ (forIn #[Value.ref i1, Value.ref i2] ((none : Option Fin), (#[] : Array Value)) _ >>= _) _ _ _
  refine wpAny_bind ?_
  rw [← Array.forIn_toList]
  simp only [List.forIn_cons, List.forIn_nil]
  refine wpAny_bind (wpAny_bind (wpAny_holding ?_))
  show wpAny _ _ (Builtin.SmallTypes.nextOf (.ref i1) >>= _) _ _ _
  have h1₀ : h₀.IsListIter i1 l1 k1 := h1.at fun o e => hs₀ _ _ D.i1z e
  have hl1₀ : h₀.IsList l1 xs := let ⟨o, e, q⟩ := hl1; ⟨o, hs₀ _ _ D.l1z e, q⟩
  refine wpAny_bind (wpAny_nextOf_list_item h1₀ hl1₀ hx fun h₂ h1₂ hs₂ => wpAny_pure ?_)
  refine wpAny_pure ?_
  refine wpAny_bind (wpAny_bind (wpAny_holding ?_))
  show wpAny _ _ (Builtin.SmallTypes.nextOf (.ref i2) >>= _) _ _ _
  have h2₂ : h₂.IsListIter i2 l2 k2 := (h2.at fun o e => hs₀ _ _ D.i2z e).extBut hs₂.extBut D.i12.symm
  have hl2₂ : h₂.IsList l2 ys := (show h₀.IsList l2 ys from let ⟨o, e, q⟩ := hl2; ⟨o, hs₀ _ _ D.l2z e, q⟩).extBut hs₂.extBut D.l2i1
  refine wpAny_bind (wpAny_nextOf_list_item h2₂ hl2₂ hy fun h₄ h2₄ hs₄ => wpAny_pure ?_)
  refine wpAny_pure (wpAny_pure ?_)
  refine wpAny_bind (wpAny_newTuple (hsz := by show 2 ≤ sizeLine; decide) ?_)
  have hsz : h₄.objs.size = s.heap.objs.size := by rw [hs₄.1, hs₂.1, hn₀]
  refine wpAny_pure ⟨_, rfl, ?_⟩
  show Q (.ref h₄.objs.size) { s with heap := h₄.push { cls := .type "tuple", data := .seq #[x, y] } }
  have eT : IsPair (h₄.push { cls := .type "tuple", data := .seq #[x, y] }) h₄.objs.size x y := Heap.get?_push_size _ rfl
  have en : (h₄.push { cls := .type "tuple", data := .seq #[x, y] }).objs.size = h₄.objs.size + 1 := Heap.size_push _ _
  have ez : Zp h₄ z TI TO (rawInt T) (.bool true) := hs₄.extBut _ _ D.i2z.symm (hs₂.extBut _ _ D.i1z.symm hz₀)
  have up : ∀ c o, h₄.get? c = some o → (h₄.push { cls := .type "tuple", data := .seq #[x, y] }).get? c = some o := fun c o e => Heap.get?_push_of_some _ e
  rw [hsz] at eT en ⊢
  exact hQ _ (up _ _ ez) ((h1₂.extBut hs₄.extBut D.i12).at fun o e => up _ o e) (h2₄.at fun o e => up _ o e) eT en fun c o c1 c2 c3 e => up _ _ (hs₄.extBut _ _ c3 (hs₂.extBut _ _ c2 (hs₀ _ _ c1 e)))
theorem next_end {z TI TO i1 i2 l1 l2 T : Addr} {k1 k2 : Nat} {xs ys : Array Value} {oT : Obj} {fl : Bool} {Q : Fin → Shared → Prop} (hh : A.handled = none) (D : ZipApart z TI TO i1 i2 l1 l2)
    (hz : Zp s.heap z TI TO (rawInt T) (.bool fl)) (hT : s.heap.get? T = some oT) (hTI : IsPair s.heap TI (.ref i1) (.ref i2))
    (h1 : s.heap.IsListIter i1 l1 k1) (h2 : s.heap.IsListIter i2 l2 k2) (hl1 : s.heap.IsList l1 xs) (hl2 : s.heap.IsList l2 ys) (hend : xs[k1]? = none ∨ ys[k2]? = none)
    (hE : ∀ h' e, (∀ c o, c ≠ z → c ≠ i1 → c ≠ i2 → s.heap.get? c = some o → h'.get? c = some o) → (∃ o, h'.get? e = some o ∧ o.cls = .type "StopIteration") → E (.ref e) { s with heap := h' }) :
    wpAny (model prog w) A (Builtin.«zip.__next__» ⟨[.ref z], []⟩) Q E s := by
  show wpAny _ _ (field (.ref z) 2 >>= _) _ _ _
  refine wpAny_bind (wpAny_field hz rfl (x := .bool false) rfl ?_)
  show wpAny _ _ (field (.ref z) 3 >>= _) _ _ _
  refine wpAny_bind (wpAny_field hz rfl (x := .ref TI) rfl ?_)
  refine wpAny_bind (wpAny_seqItems hTI rfl ?_)
  show wpAny _ _ (Builtin.SmallTypes.ownedTupleIsFree (.ref z) >>= _) _ _ _
  refine wpAny_bind (free_no hz hT fun h₀ hz₀ hn₀ hs₀ => ?_)
  rw [if_neg (by decide)]
  show wpAny _ _ (forIn #[Value.ref i1, Value.ref i2] ((none : Option Fin), (#[] : Array Value)) _ >>= _) _ _ _
  refine wpAny_bind ?_
  rw [← Array.forIn_toList]
  simp only [List.forIn_cons, List.forIn_nil]
  refine wpAny_bind (wpAny_bind (wpAny_holding ?_))
  show wpAny _ _ (Builtin.SmallTypes.nextOf (.ref i1) >>= _) _ _ _
  have h1₀ : h₀.IsListIter i1 l1 k1 := h1.at fun o e => hs₀ _ _ D.i1z e
  have hl1₀ : h₀.IsList l1 xs := let ⟨o, e, q⟩ := hl1; ⟨o, hs₀ _ _ D.l1z e, q⟩
  cases hx : xs[k1]? with
  | none =>
    exact wpAny_bind (wpAny_nextOf_list_end hh h1₀ hl1₀ hx fun h₂ e hs₂ he => hE h₂ e (fun c o c1 c3 _ x => hs₂ _ _ c3 (hs₀ _ _ c1 x)) he)
  | some x =>
    have hy : ys[k2]? = none := by rcases hend with h | h; rw [hx] at h; cases h; exact h
    refine wpAny_bind (wpAny_nextOf_list_item h1₀ hl1₀ hx fun h₂ h1₂ hs₂ => wpAny_pure ?_)
    refine wpAny_pure ?_
    refine wpAny_bind (wpAny_bind (wpAny_holding ?_))
    show wpAny _ _ (Builtin.SmallTypes.nextOf (.ref i2) >>= _) _ _ _
    have h2₂ : h₂.IsListIter i2 l2 k2 := (h2.at fun o e => hs₀ _ _ D.i2z e).extBut hs₂.extBut D.i12.symm
    have hl2₂ : h₂.IsList l2 ys := (show h₀.IsList l2 ys from let ⟨o, e, q⟩ := hl2; ⟨o, hs₀ _ _ D.l2z e, q⟩).extBut hs₂.extBut D.l2i1
    exact wpAny_bind (wpAny_nextOf_list_end hh h2₂ hl2₂ hy fun h₄ e hs₄ he => hE h₄ e (fun c o c1 c3 c4 x => hs₄ _ _ c4 (hs₂.extBut _ _ c3 (hs₀ _ _ c1 x))) he)
theorem py_out {z TI TO i1 i2 l1 l2 T : Addr} {k1 k2 : Nat} {xs ys : Array Value} {x y : Value} {oT : Obj} {fl : Bool} {Q : Option Value → Shared → Prop} (D : ZipApart z TI TO i1 i2 l1 l2)
    (hz : Zp s.heap z TI TO (rawInt T) (.bool fl)) (hT : s.heap.get? T = some oT) (hTI : IsPair s.heap TI (.ref i1) (.ref i2))
    (h1 : s.heap.IsListIter i1 l1 k1) (h2 : s.heap.IsListIter i2 l2 k2) (hl1 : s.heap.IsList l1 xs) (hl2 : s.heap.IsList l2 ys) (hx : xs[k1]? = some x) (hy : ys[k2]? = some y) (hTz : T ≠ z)
    (hQ : ∀ h', Zp h' z TI TO (rawInt T) (.bool true) → h'.IsListIter i1 l1 (k1 + 1) → h'.IsListIter i2 l2 (k2 + 1) → IsPair h' s.heap.objs.size x y → h'.objs.size = s.heap.objs.size + 1 →
      (∀ c o, c ≠ z → c ≠ i1 → c ≠ i2 → s.heap.get? c = some o → h'.get? c = some o) → Q (some (.ref s.heap.objs.size)) { s with heap := h' }) : wpAny (model prog w) A (pyNext (.ref z)) Q E s := by
  have hTy : s.TypeIs (.ref z) "zip" := ⟨_, hz, rfl⟩
  unfold pyNext
  exact wpAny_bind (wpAny_attempt (wpAny_callSpecial?_slot (name := Str.ofString "__next__") hTy F.slot_zip_next
    (wpAny_call_entry F.slot_zip_next hTy F.entry_zip_next
      (next_out D hz hT hTI h1 h2 hl1 hl2 hx hy hTz fun h' a1 a2 a3 a4 a5 a6 => wpAny_pure (hQ h' a1 a2 a3 a4 a5 a6)) (F.args_zip_next_1 _))))
theorem py_end {z TI TO i1 i2 l1 l2 T : Addr} {k1 k2 : Nat} {xs ys : Array Value} {oT : Obj} {fl : Bool} {Q : Option Value → Shared → Prop} (hh : A.handled = none) (D : ZipApart z TI TO i1 i2 l1 l2)
    (hz : Zp s.heap z TI TO (rawInt T) (.bool fl)) (hT : s.heap.get? T = some oT) (hTI : IsPair s.heap TI (.ref i1) (.ref i2))
    (h1 : s.heap.IsListIter i1 l1 k1) (h2 : s.heap.IsListIter i2 l2 k2) (hl1 : s.heap.IsList l1 xs) (hl2 : s.heap.IsList l2 ys) (hend : xs[k1]? = none ∨ ys[k2]? = none)
    (hQ : ∀ h', (∀ c o, c ≠ z → c ≠ i1 → c ≠ i2 → s.heap.get? c = some o → h'.get? c = some o) → Q none { s with heap := h' }) : wpAny (model prog w) A (pyNext (.ref z)) Q E s := by
  have hTy : s.TypeIs (.ref z) "zip" := ⟨_, hz, rfl⟩
  unfold pyNext
  refine wpAny_bind (wpAny_attempt (wpAny_callSpecial?_slot (name := Str.ofString "__next__") hTy F.slot_zip_next
    (wpAny_call_entry F.slot_zip_next hTy F.entry_zip_next (next_end hh D hz hT hTI h1 h2 hl1 hl2 hend fun h' e hk he => ?_) (F.args_zip_next_1 _))))
  obtain ⟨o, ho, hc⟩ := he
  refine wpAny_bind (wpAny_isInstance (T := "StopIteration") (b := true) ⟨o, ho, hc⟩ isSubtype_stop ?_)
  exact wpAny_pure (hQ _ hk)
/-- the zip of two lists behind k turns -/
structure ZSt (h : Heap) (z TI TO i1 i2 l1 l2 : Addr) (k : Nat) : Prop where
  rec_ : Zp h z TI TO .none (.bool false) ∨ ∃ (T : Addr) (oT : Obj) (fl : Bool), Zp h z TI TO (rawInt T) (.bool fl) ∧ h.get? T = some oT ∧ T ≠ z
  ti : IsPair h TI (.ref i1) (.ref i2)
  to_ : ∃ a b, IsPair h TO a b
  h1 : h.IsListIter i1 l1 k
  h2 : h.IsListIter i2 l2 k
theorem z_item {z TI TO i1 i2 l1 l2 : Addr} {k : Nat} {xs ys : Array Value} {x y : Value} {Q : Option Value → Shared → Prop} (D : ZipApart z TI TO i1 i2 l1 l2) (st : ZSt s.heap z TI TO i1 i2 l1 l2 k)
    (hl1 : s.heap.IsList l1 xs) (hl2 : s.heap.IsList l2 ys) (hx : xs[k]? = some x) (hy : ys[k]? = some y)
    (hQ : ∀ h', ZSt h' z TI TO i1 i2 l1 l2 (k + 1) → IsPair h' s.heap.objs.size x y → h'.objs.size = s.heap.objs.size + 1 →
      (∀ c o, c ≠ z → c ≠ TO → c ≠ i1 → c ≠ i2 → s.heap.get? c = some o → h'.get? c = some o) → Q (some (.ref s.heap.objs.size)) { s with heap := h' }) : wpAny (model prog w) A (pyNext (.ref z)) Q E s := by
  obtain ⟨hr, hti, ⟨a, b, hto⟩, h1, h2⟩ := st
  rcases hr with hz | ⟨T, oT, fl, hz, hT, hTz⟩
  · have hzl : z < s.heap.objs.size := Heap.lt_size hz
    refine wpAny_pyNext_zip_item D hz hti hto h1 h2 hl1 hl2 hx hy fun h' a1 a2 a3 a4 a5 a6 a7 => hQ h' ⟨.inr ⟨_, _, false, a1, a5, Nat.ne_of_gt hzl⟩, a7 _ _ D.TIz D.TITO D.TIi1 D.TIi2 hti, ⟨_, _, a2⟩, a3, a4⟩ a5 a6 a7
  · refine py_out D hz hT hti h1 h2 hl1 hl2 hx hy hTz fun h' a1 a3 a4 a5 a6 a7 => ?_
    have hT' : ∃ o, h'.get? T = some o := by
      by_cases q1 : T = i1
      · subst q1; obtain ⟨o, e, _⟩ := a3; exact ⟨o, e⟩
      · by_cases q2 : T = i2
        · subst q2; obtain ⟨o, e, _⟩ := a4; exact ⟨o, e⟩
        · exact ⟨_, a7 _ _ hTz q1 q2 hT⟩
    obtain ⟨o, eo⟩ := hT'
    exact hQ h' ⟨.inr ⟨T, o, true, a1, eo, hTz⟩, a7 _ _ D.TIz D.TIi1 D.TIi2 hti, ⟨a, b, a7 _ _ D.TOz D.TOi1 D.TOi2 hto⟩, a3, a4⟩ a5 a6 fun c o c1 c2 c3 c4 e => a7 c o c1 c3 c4 e
theorem z_end {z TI TO i1 i2 l1 l2 : Addr} {k : Nat} {xs ys : Array Value} {Q : Option Value → Shared → Prop} (hh : A.handled = none) (D : ZipApart z TI TO i1 i2 l1 l2) (st : ZSt s.heap z TI TO i1 i2 l1 l2 k)
    (hl1 : s.heap.IsList l1 xs) (hl2 : s.heap.IsList l2 ys) (hend : xs[k]? = none ∨ ys[k]? = none)
    (hQ : ∀ h', (∀ c o, c ≠ z → c ≠ TO → c ≠ i1 → c ≠ i2 → s.heap.get? c = some o → h'.get? c = some o) → Q none { s with heap := h' }) : wpAny (model prog w) A (pyNext (.ref z)) Q E s := by
  obtain ⟨hr, hti, ⟨a, b, hto⟩, h1, h2⟩ := st
  rcases hr with hz | ⟨T, oT, fl, hz, hT, hTz⟩
  · exact wpAny_pyNext_zip_end hh D hz hti hto h1 h2 hl1 hl2 hend hQ
  · exact py_end hh D hz hT hti h1 h2 hl1 hl2 hend fun h' k => hQ h' fun c o c1 _ c3 c4 e => k c o c1 c3 c4 e
theorem ZSt.keep {h h' : Heap} {z TI TO i1 i2 l1 l2 S : Addr} {k : Nat} (st : ZSt h z TI TO i1 i2 l1 l2 k) (up : ∀ b o, b ≠ S → h.get? b = some o → h'.get? b = some o) (n1 : z ≠ S) (n2 : TI ≠ S) (n3 : TO ≠ S) (n4 : i1 ≠ S) (n5 : i2 ≠ S) (hS : ∃ o, h'.get? S = some o) : ZSt h' z TI TO i1 i2 l1 l2 k := by
  obtain ⟨hr, hti, ⟨a, b, hto⟩, h1, h2⟩ := st
  refine ⟨?_, up _ _ n2 hti, ⟨a, b, up _ _ n3 hto⟩, h1.at fun o e => up _ o n4 e, h2.at fun o e => up _ o n5 e⟩
  rcases hr with hz | ⟨T, oT, fl, hz, hT, hTz⟩
  · exact .inl (up _ _ n1 hz)
  · by_cases q : T = S
    · subst q
      obtain ⟨o, e⟩ := hS
      exact .inr ⟨T, o, fl, up _ _ n1 hz, e, hTz⟩
    · exact .inr ⟨T, oT, fl, up _ _ n1 hz, up _ _ q hT, hTz⟩
/-- what the new pairs are -/
structure Prs (xs ys : Array Value) (B0 : Nat) (h : Heap) (as : List Addr) : Prop where
  rise : as.Pairwise (· < ·)
  above : ∀ a ∈ as, B0 ≤ a
  pairs : ∀ (j : Nat) (a : Addr), as[j]? = some a → ∃ x y, xs[j]? = some x ∧ ys[j]? = some y ∧ IsPair h a x y
theorem z_loop {z TI TO i1 i2 l1 l2 S : Addr} {xs ys : Array Value} {B0 n : Nat} {R : Result → Shared → Prop} (hh : A.handled = none) (D : ZipApart z TI TO i1 i2 l1 l2) (n1 : z ≠ S) (n2 : TI ≠ S) (n3 : TO ≠ S) (n4 : i1 ≠ S) (n5 : i2 ≠ S) (n6 : l1 ≠ S) (n7 : l2 ≠ S)
    (bz : z < B0) (bTO : TO < B0) (bi1 : i1 < B0) (bi2 : i2 < B0) (bS : S < B0) (hn : n = min xs.size ys.size) (hsl : n ≤ sizeLine) (res : Value) {h₁ : Heap}
    (hR : ∀ h' tk acc c as, (∀ b o, b ≠ S → b ≠ z → b ≠ TO → b ≠ i1 → b ≠ i2 → h₁.get? b = some o → h'.get? b = some o) → h'.get? S = some { cls := .type "list", dict := none, data := .seq acc c, slots := #[] } → as.length = n → Prs xs ys B0 h' as →
      acc.toList = as.map Value.ref → R (.ok (.ret res)) { s with heap := h', toks := tk }) :
    ∀ (k i : Nat) (h : Heap) (tk c : Nat) (acc : Array Value) (as : List Addr), n - i = k → i ≤ n → ZSt h z TI TO i1 i2 l1 l2 i → h.IsList l1 xs → h.IsList l2 ys → (∀ b o, b ≠ S → b ≠ z → b ≠ TO → b ≠ i1 → b ≠ i2 → h₁.get? b = some o → h.get? b = some o) →
      h.get? S = some { cls := .type "list", dict := none, data := .seq acc c, slots := #[] } → acc.toList = as.map Value.ref → as.length = i → Prs xs ys B0 h as → B0 ≤ h.objs.size →
      codeAny (model prog w) A (.builtin "list.extend.loop" ⟨[.ref S, .ref z, res], []⟩) R { s with heap := h, toks := tk } := by
  intro k
  induction k with
  | zero =>
    intro i h tk c acc as hk hi hst hL1 hL2 hkeep hS hacc hal hG hIs
    have hin : i = n := by omega
    refine codeAny_builtin PySem.F.entry_extend_loop ?_
    rw [Around.under_plainId PySem.F.plain_extend_loop _]
    show wpAny _ A.in1 (pyNext (.ref z) >>= _) _ _ _
    have hend : xs[i]? = none ∨ ys[i]? = none := by
      rcases Nat.le_total xs.size ys.size with q | q
      · exact .inl (Array.getElem?_eq_none (by omega))
      · exact .inr (Array.getElem?_eq_none (by omega))
    refine wpAny_bind (z_end (s := { s with heap := h, toks := tk }) (A := A.in1) hh D hst hL1 hL2 hend fun h' he => ?_)
    refine wpAny_pure (hR h' tk acc c as (fun b o c0 c1 c2 c3 c4 e => he b o c1 c2 c3 c4 (hkeep b o c0 c1 c2 c3 c4 e)) (he S _ n1.symm n3.symm n4.symm n5.symm hS) (by omega) ⟨hG.rise, hG.above, fun j a hj => ?_⟩ hacc)
    obtain ⟨x, y, e1, e2, e3⟩ := hG.pairs j a hj
    have ha := hG.above a (List.mem_of_getElem? hj)
    exact ⟨x, y, e1, e2, he a _ (Nat.ne_of_gt (Nat.lt_of_lt_of_le bz ha)) (Nat.ne_of_gt (Nat.lt_of_lt_of_le bTO ha)) (Nat.ne_of_gt (Nat.lt_of_lt_of_le bi1 ha)) (Nat.ne_of_gt (Nat.lt_of_lt_of_le bi2 ha)) e3⟩
  | succ k ih =>
    intro i h tk c acc as hk hi hst hL1 hL2 hkeep hS hacc hal hG hIs
    have hxl : i < xs.size := by omega
    have hyl : i < ys.size := by omega
    obtain ⟨x, hx⟩ : ∃ p, xs[i]? = some p := ⟨xs[i], Array.getElem?_eq_getElem hxl⟩
    obtain ⟨y, hy⟩ : ∃ p, ys[i]? = some p := ⟨ys[i], Array.getElem?_eq_getElem hyl⟩
    have hsz : acc.size = i := by rw [← Array.length_toList, hacc, List.length_map, hal]
    refine codeAny_builtin PySem.F.entry_extend_loop ?_
    rw [Around.under_plainId PySem.F.plain_extend_loop _]
    show wpAny _ A.in1 (pyNext (.ref z) >>= _) _ _ _
    refine wpAny_bind (z_item (s := { s with heap := h, toks := tk }) D hst hL1 hL2 hx hy fun h' hst' ht hz hkp => ?_)
    dsimp only at ht hz hkp ⊢
    have hS' := hkp S _ n1.symm n3.symm n4.symm n5.symm hS
    have up : ∀ b o, b ≠ S → h'.get? b = some o → (h'.update S (Obj.mapSeq (·.push (Value.ref h.objs.size)))).get? b = some o := fun b o hb e => (Heap.get?_update_other _ _ (Ne.symm hb)).trans e
    have hSl : S < h.objs.size := Heap.lt_size hS
    have hSn := Heap.get?_update_self (Obj.mapSeq (·.push (Value.ref h.objs.size))) hS' rfl
    have tt : (h'.update S (Obj.mapSeq (·.push (Value.ref h.objs.size)))).get? h.objs.size = _ := up _ _ (Nat.ne_of_gt hSl) ht
    show wpAny _ A.in1 (updateSeq S (·.push (Value.ref h.objs.size)) >>= _) _ _ _
    refine wpAny_bind ?_
    refine wpAny_updateSeq hS' rfl (wpAny_pure ⟨plainId_quiet PySem.F.plain_extend_loop _, ih (i + 1) _ tk _ (acc.push (Value.ref h.objs.size)) (as ++ [h.objs.size]) (by omega) (by omega) (hst'.keep up n1 n2 n3 n4 n5 ⟨_, hSn⟩)
      (let ⟨o, e, q⟩ := hL1; ⟨o, up _ _ n6 (hkp _ _ D.l1z D.l1TO D.l1i1 D.l1i2 e), q⟩) (let ⟨o, e, q⟩ := hL2; ⟨o, up _ _ n7 (hkp _ _ D.l2z D.l2TO D.l2i1 D.l2i2 e), q⟩)
      (fun b o c0 c1 c2 c3 c4 e => up b o c0 (hkp b o c1 c2 c3 c4 (hkeep b o c0 c1 c2 c3 c4 e))) hSn (by rw [Array.toList_push, hacc, List.map_append]; rfl) (by rw [List.length_append, hal]; rfl) ⟨?_, ?_, ?_⟩ (Nat.le_of_lt (Nat.lt_of_le_of_lt hIs (Heap.lt_size tt)))⟩) (by rw [hsz]; omega) (by show (acc.push (Value.ref h.objs.size)).size ≤ sizeLine + 1; rw [Array.size_push, hsz]; omega)
    · refine List.pairwise_append.mpr ⟨hG.rise, List.pairwise_singleton _ _, fun a ha b hb => ?_⟩
      rw [List.mem_singleton.mp hb]
      obtain ⟨j, hj⟩ := List.mem_iff_getElem?.mp ha
      obtain ⟨_, _, _, _, e⟩ := hG.pairs j a hj
      exact Heap.lt_size e
    · intro a ha
      rcases List.mem_append.mp ha with ha | ha
      · exact hG.above a ha
      · rw [List.mem_singleton.mp ha]; exact hIs
    · intro j b hj
      rcases Nat.lt_trichotomy j as.length with h1 | h1 | h1
      · rw [List.getElem?_append_left h1] at hj
        obtain ⟨x', y', e1, e2, e3⟩ := hG.pairs j b hj
        have hb := hG.above b (List.mem_of_getElem? hj)
        have ne : ∀ q, q < B0 → b ≠ q := fun q hq => Nat.ne_of_gt (Nat.lt_of_lt_of_le hq hb)
        exact ⟨x', y', e1, e2, up b _ (ne _ bS) (hkp b _ (ne _ bz) (ne _ bTO) (ne _ bi1) (ne _ bi2) e3)⟩
      · subst h1
        have hb : h.objs.size = b := by simpa using hj
        subst hb
        exact ⟨x, y, by rw [hal]; exact hx, by rw [hal]; exact hy, tt⟩
      · have hnone : (as ++ [h.objs.size])[j]? = none := List.getElem?_eq_none (by rw [List.length_append, List.length_singleton]; omega)
        rw [hnone] at hj; cases hj
theorem zip_no_len : typeLookup (.type "zip") "__len__" = pure none := by rw [typeLookup_type, builtinLookup_eq_fast]; kernel_rfl
theorem zip_no_hint : typeLookup (.type "zip") "__length_hint__" = pure none := by rw [typeLookup_type, builtinLookup_eq_fast]; kernel_rfl
theorem z_hint {z : Addr} (hT : s.TypeIs (.ref z) "zip") {Q : Bool → Shared → Prop} (h : Q true s) : wpAny (model prog w) A (Builtin.List.listLengthHint (.ref z)) Q E s := by
  unfold Builtin.List.listLengthHint
  refine wpAny_bind (wpAny_specialOf hT zip_no_len ?_)
  wp_delta
  refine wpAny_bind ?_
  refine wpAny_specialOf hT zip_no_hint ?_
  exact wpAny_pure h
theorem ZSt.zip {h : Heap} {z TI TO i1 i2 l1 l2 : Addr} {k : Nat} (st : ZSt h z TI TO i1 i2 l1 l2 k) : ∃ f0 f1, Zp h z TI TO f0 f1 := by
  rcases st.rec_ with e | ⟨T, _, fl, e, _⟩
  · exact ⟨_, _, e⟩
  · exact ⟨_, _, e⟩
theorem z_extend {z TI TO i1 i2 l1 l2 S : Addr} {xs ys : Array Value} {n : Nat} {R : Result → Shared → Prop} (hh : A.handled = none) (D : ZipApart z TI TO i1 i2 l1 l2) (n1 : z ≠ S) (n2 : TI ≠ S) (n3 : TO ≠ S) (n4 : i1 ≠ S) (n5 : i2 ≠ S) (n6 : l1 ≠ S) (n7 : l2 ≠ S)
    (hn : n = min xs.size ys.size) (hsl : n ≤ sizeLine) (res : Value) (c₀ : Nat) (hz : Zp s.heap z TI TO .none (.bool false)) (hti : IsPair s.heap TI (.ref i1) (.ref i2)) (hto : ∃ a b, IsPair s.heap TO a b) (h1 : s.heap.IsListIter i1 l1 0) (h2 : s.heap.IsListIter i2 l2 0)
    (hL1 : s.heap.IsList l1 xs) (hL2 : s.heap.IsList l2 ys) (hS : s.heap.get? S = some { cls := .type "list", data := .seq #[] c₀ })
    (hR : ∀ h' tk acc c as, (∀ b o, b ≠ S → b ≠ z → b ≠ TO → b ≠ i1 → b ≠ i2 → s.heap.get? b = some o → h'.get? b = some o) → h'.get? S = some { cls := .type "list", dict := none, data := .seq acc c, slots := #[] } → as.length = n → Prs xs ys s.heap.objs.size h' as →
      acc.toList = as.map Value.ref → R (.ok (.ret res)) { s with heap := h', toks := tk }) :
    wpAny (model prog w) A.in1 (Builtin.List.listExtendWith (.ref S) (.ref z) res)
      (fun fin s' => match fin with | .done f => R (.ok f) s' | .again c' => c'.quiet = true ∧ codeAny (model prog w) A c' R s') (fun e s' => R (.error e) s') s := by
  have st : ZSt s.heap z TI TO i1 i2 l1 l2 0 := ⟨.inl hz, hti, hto, h1, h2⟩
  have hTy : s.TypeIs (.ref z) "zip" := ⟨_, hz, rfl⟩
  have key : ∀ (h : Heap) (c₁ tk : Nat), (∀ b o, b ≠ S → s.heap.get? b = some o → h.get? b = some o) → h.objs.size = s.heap.objs.size →
      h.get? S = some { cls := .type "list", data := .seq #[] c₁ } → codeAny (model prog w) A (.builtin "list.extend.loop" ⟨[.ref S, .ref z, res], []⟩) R { s with heap := h, toks := tk } := by
    intro h c₁ tk hk hsz hS₁
    refine z_loop (s := s) (B0 := s.heap.objs.size) (h₁ := s.heap) hh D n1 n2 n3 n4 n5 n6 n7 (Heap.lt_size hz) (let ⟨_, _, e⟩ := hto; Heap.lt_size e) (let ⟨_, e, _⟩ := h1; Heap.lt_size e) (let ⟨_, e, _⟩ := h2; Heap.lt_size e) (Heap.lt_size hS) hn hsl res hR
      n 0 h tk c₁ #[] [] (Nat.sub_zero _) (Nat.zero_le _) (st.keep hk n1 n2 n3 n4 n5 ⟨_, hS₁⟩) (let ⟨o, e, q⟩ := hL1; ⟨o, hk _ _ n6 e, q⟩) (let ⟨o, e, q⟩ := hL2; ⟨o, hk _ _ n7 e, q⟩) (fun b o hb _ _ _ _ e => hk b o hb e) hS₁ rfl rfl
      ⟨List.Pairwise.nil, (fun _ ha => nomatch ha), (fun j a hj => by simp at hj)⟩ (Nat.le_of_eq hsz.symm)
  unfold Builtin.List.listExtendWith
  refine wpAny_bind (wpAny_typeOf (T := "zip") hTy ?_)
  have g1 : Builtin.List.listSameRef (.ref S) (.ref z) = false := by simp [Builtin.List.listSameRef, n1.symm]
  have g2 : (Value.type "zip" == Value.type "list") = false := by decide
  have g3 : (Value.type "zip" == Value.type "tuple") = false := by decide
  simp only [g1, g2, g3, Bool.or_false, Bool.false_eq_true, if_false]
  refine wpAny_bind (wpAny_pyIter_zip hz ?_)
  refine wpAny_bind (wpAny_holding (z_hint hTy ?_))
  refine wpAny_ite_split (fun _ => ?_) (fun _ => wpAny_pure ⟨plainId_quiet PySem.F.plain_extend_loop _, key _ c₀ _ (fun b o _ e => e) rfl hS⟩)
  refine wpAny_bind (wpAny_rule ?_)
  refine wpAny_bind ?_
  show wpAny _ _ (updateSeq S (·.push .none) >>= fun _ => updateSeq S (·.pop)) _ _ _
  refine wpAny_bind (wpAny_updateSeq hS rfl ?_)
  have hS₂ := Heap.get?_update_self (Obj.mapSeq (·.push Value.none)) hS rfl
  refine wpAny_updateSeq (hz := by seq_fits) hS₂ rfl ?_
  have hS₃ := Heap.get?_update_self (Obj.mapSeq (·.pop)) hS₂ rfl
  refine wpAny_pure ⟨plainId_quiet PySem.F.plain_extend_loop _, key _ _ _ (fun b o hb e => ?_) (by simp [Heap.size_update]) hS₃⟩
  exact (Heap.get?_update_other _ _ (Ne.symm hb)).trans ((Heap.get?_update_other _ _ (Ne.symm hb)).trans e)
theorem z_init {z TI TO i1 i2 l1 l2 S : Addr} {xs ys : Array Value} {n : Nat} {R : Result → Shared → Prop} (hh : A.handled = none) (D : ZipApart z TI TO i1 i2 l1 l2) (n1 : z ≠ S) (n2 : TI ≠ S) (n3 : TO ≠ S) (n4 : i1 ≠ S) (n5 : i2 ≠ S) (n6 : l1 ≠ S) (n7 : l2 ≠ S)
    (hn : n = min xs.size ys.size) (hsl : n ≤ sizeLine) (hz : Zp s.heap z TI TO .none (.bool false)) (hti : IsPair s.heap TI (.ref i1) (.ref i2)) (hto : ∃ a b, IsPair s.heap TO a b) (h1 : s.heap.IsListIter i1 l1 0) (h2 : s.heap.IsListIter i2 l2 0)
    (hL1 : s.heap.IsList l1 xs) (hL2 : s.heap.IsList l2 ys) (hS : s.heap.get? S = some { cls := .type "list", data := .seq #[] })
    (hR : ∀ h' tk acc c as, (∀ b o, b ≠ S → b ≠ z → b ≠ TO → b ≠ i1 → b ≠ i2 → s.heap.get? b = some o → h'.get? b = some o) → h'.get? S = some { cls := .type "list", dict := none, data := .seq acc c, slots := #[] } → as.length = n → Prs xs ys s.heap.objs.size h' as →
      acc.toList = as.map Value.ref → R (.ok (.ret .none)) { s with heap := h', toks := tk }) :
    wpAny (model prog w) A.in1 (Builtin.«list.__init__» ⟨[.ref S, .ref z], []⟩)
      (fun fin s' => match fin with | .done f => R (.ok f) s' | .again c' => c'.quiet = true ∧ codeAny (model prog w) A c' R s') (fun e s' => R (.error e) s') s := by
  show wpAny _ _ (do let old ← Builtin.List.listItems (.ref S); Builtin.List.listUpdate (.ref S) (fun _ => #[]); letGo old.toList.reverse; Builtin.List.listExtendWith (.ref S) (.ref z) .none) _ _ s
  refine wpAny_bind ?_
  unfold Builtin.List.listItems
  refine wpAny_bind (wpAny_seqItems hS rfl (wpAny_pure ?_))
  show wpAny _ _ (updateSeq S (fun _ => #[]) >>= fun _ => letGo (#[] : Array Value).toList.reverse >>= fun _ => Builtin.List.listExtendWith (.ref S) (.ref z) .none) _ _ s
  refine wpAny_bind (wpAny_updateSeq hS rfl ?_)
  have hS₂ := Heap.get?_update_self (Obj.mapSeq (fun _ => (#[] : Array Value))) hS rfl
  have oth : ∀ b o, b ≠ S → s.heap.get? b = some o → (s.heap.update S (Obj.mapSeq (fun _ => (#[] : Array Value)))).get? b = some o :=
    fun b o hb e => (Heap.get?_update_other _ _ (Ne.symm hb)).trans e
  have hzz : (s.heap.update S (Obj.mapSeq (fun _ => (#[] : Array Value)))).objs.size = s.heap.objs.size := by simp [Heap.size_update]
  refine wpAny_bind (wpAny_letGo ?_)
  refine z_extend hh D n1 n2 n3 n4 n5 n6 n7 hn hsl .none _ (oth _ _ n1 hz) (oth _ _ n2 hti) (let ⟨a, b, e⟩ := hto; ⟨a, b, oth _ _ n3 e⟩) (h1.at fun o e => oth _ o n4 e) (h2.at fun o e => oth _ o n5 e)
    (let ⟨o, e, q⟩ := hL1; ⟨o, oth _ _ n6 e, q⟩) (let ⟨o, e, q⟩ := hL2; ⟨o, oth _ _ n7 e, q⟩) hS₂ (fun h' tk acc c as hk hS' hl hG hacc => ?_)
  exact hR h' tk acc c as (fun b o hb b1 b2 b3 b4 e => hk b o hb b1 b2 b3 b4 (oth b o hb e)) hS' hl (by rw [← hzz]; exact hG) hacc
theorem z_call {z TI TO i1 i2 l1 l2 : Addr} {xs ys : Array Value} {n : Nat} {Q : Value → Shared → Prop} (hh : A.handled = none) (D : ZipApart z TI TO i1 i2 l1 l2)
    (hn : n = min xs.size ys.size) (hsl : n ≤ sizeLine) (hz : Zp s.heap z TI TO .none (.bool false)) (hti : IsPair s.heap TI (.ref i1) (.ref i2)) (hto : ∃ a b, IsPair s.heap TO a b) (h1 : s.heap.IsListIter i1 l1 0) (h2 : s.heap.IsListIter i2 l2 0)
    (hL1 : s.heap.IsList l1 xs) (hL2 : s.heap.IsList l2 ys)
    (hQ : ∀ h' tk acc c as, (∀ b o, b ≠ z → b ≠ TO → b ≠ i1 → b ≠ i2 → s.heap.get? b = some o → h'.get? b = some o) → h'.get? s.heap.objs.size = some { cls := .type "list", dict := none, data := .seq acc c, slots := #[] } → as.length = n → Prs xs ys (s.heap.objs.size + 1) h' as →
      acc.toList = as.map Value.ref → Q (.ref s.heap.objs.size) { s with heap := h', toks := tk }) :
    wpAny (model prog w) A (call (.type "list") [.ref z]) Q E s := by
  refine callType_codes (Q₁ := fun obj s₁ => obj = .ref s.heap.objs.size ∧ s₁ = { s with heap := s.heap.push { cls := .type "list", data := .seq #[] } }) PySem.F.called_list (PySem.F.typeCall_list_1 _) PySem.F.entry_list_init
    (code_list_new _ ⟨rfl, rfl⟩) fun obj s₁ h₁ => ?_
  obtain ⟨rfl, rfl⟩ := h₁
  have hS : (s.heap.push { cls := .type "list", data := .seq #[] }).get? s.heap.objs.size = some { cls := .type "list", data := .seq #[] } := Heap.get?_push_size _ rfl
  have up : ∀ b o, s.heap.get? b = some o → (s.heap.push { cls := .type "list", data := .seq #[] }).get? b = some o := fun b o e => Heap.get?_push_of_some _ e
  have lt : ∀ (b : Addr) (o : Obj), s.heap.get? b = some o → b ≠ s.heap.objs.size := fun b o e => Nat.ne_of_lt (Heap.lt_size e)
  have hzz : (s.heap.push { cls := .type "list", data := .seq #[] }).objs.size = s.heap.objs.size + 1 := Heap.size_push _ _
  refine ⟨⟨_, hS, rfl⟩, PySem.F.args_list_init_2 _ _, z_init (A := A.in1) hh D (lt _ _ hz) (lt _ _ hti) (let ⟨_, _, e⟩ := hto; lt _ _ e) (let ⟨_, e, _⟩ := h1; lt _ _ e) (let ⟨_, e, _⟩ := h2; lt _ _ e) (let ⟨_, e, _⟩ := hL1; lt _ _ e) (let ⟨_, e, _⟩ := hL2; lt _ _ e)
    hn hsl (up _ _ hz) (up _ _ hti) (let ⟨a, b, e⟩ := hto; ⟨a, b, up _ _ e⟩) (h1.at fun o e => up _ o e) (h2.at fun o e => up _ o e) (let ⟨o, e, q⟩ := hL1; ⟨o, up _ _ e, q⟩) (let ⟨o, e, q⟩ := hL2; ⟨o, up _ _ e, q⟩) hS (fun h' tk acc c as hk hS' hl hG hacc => ?_)⟩
  exact ⟨rfl, hQ h' tk acc c as (fun b o b1 b2 b3 b4 e => hk b o (lt _ _ e) b1 b2 b3 b4 (up _ _ e)) hS' hl (by rw [← hzz]; exact hG) hacc⟩
end ZL
end PySem

set_option maxHeartbeats 4000000
namespace PySem
open Sem (wp)
namespace ZT
open PySem.F
abbrev Zp (h : Heap) (z TI TO : Addr) (f0 f1 : Value) : Prop := h.get? z = some { cls := .type "zip", data := .fields #[f0, f1, .bool false, .ref TI, .ref TO] }
variable {prog : Program} {w : World} {A : Around} {E : Value → Shared → Prop} {s : Shared}
theorem free_no {z TI TO T : Addr} {oT : Obj} {fl : Bool} {Q : Bool → Shared → Prop} (hz : Zp s.heap z TI TO (rawInt T) (.bool fl)) (hT : s.heap.get? T = some oT)
    (hQ : ∀ h', Zp h' z TI TO (rawInt T) (.bool true) → h'.objs.size = s.heap.objs.size → (∀ c o, c ≠ z → s.heap.get? c = some o → h'.get? c = some o) → Q false { s with heap := h' }) : wpAny (model prog w) A (Builtin.SmallTypes.ownedTupleIsFree (.ref z)) Q E s := by
  unfold Builtin.SmallTypes.ownedTupleIsFree
  refine wpAny_bind (wpAny_field hz rfl (x := rawInt T) rfl ?_)
  refine wpAny_bind (W.kdx_alive hT ?_)
  rw [if_neg (by simp)]
  refine wpAny_bind (wpAny_field hz rfl (x := .bool fl) rfl ?_)
  cases fl with
  | true =>
    rw [if_neg (by decide)]
    exact wpAny_bind (wpAny_pure (wpAny_pure (hQ s.heap hz rfl fun _ _ _ e => e)))
  | false =>
    rw [if_pos (by decide)]
    refine wpAny_bind (wpAny_setField_rec hz (by simp) fun h₁ hz₁ hs₁ => ?_)
    exact wpAny_pure (hQ h₁ hz₁ hs₁.1 fun c o ne e => hs₁.extBut _ _ ne e)
theorem next_out {z TI TO i1 i2 l1 l2 T : Addr} {k1 k2 : Nat} {xs ys : Array Value} {x y : Value} {oT : Obj} {fl : Bool} {Q : Value → Shared → Prop} (D : ZipApart z TI TO i1 i2 l1 l2)
    (hz : Zp s.heap z TI TO (rawInt T) (.bool fl)) (hT : s.heap.get? T = some oT) (hTI : IsPair s.heap TI (.ref i1) (.ref i2))
    (h1 : s.heap.IsTupleIter i1 l1 k1) (h2 : s.heap.IsTupleIter i2 l2 k2) (hl1 : s.heap.IsTuple l1 xs) (hl2 : s.heap.IsTuple l2 ys) (hx : xs[k1]? = some x) (hy : ys[k2]? = some y) (hTz : T ≠ z)
    (hQ : ∀ h', Zp h' z TI TO (rawInt T) (.bool true) → h'.IsTupleIter i1 l1 (k1 + 1) → h'.IsTupleIter i2 l2 (k2 + 1) → IsPair h' s.heap.objs.size x y → h'.objs.size = s.heap.objs.size + 1 →
      (∀ c o, c ≠ z → c ≠ i1 → c ≠ i2 → s.heap.get? c = some o → h'.get? c = some o) → Q (.ref s.heap.objs.size) { s with heap := h' }) :
    wpAny (model prog w) A (Builtin.«zip.__next__» ⟨[.ref z], []⟩) (fun fin s' => ∃ v, fin = .done (.ret v) ∧ Q v s') E s := by
  show wpAny _ _ (field (.ref z) 2 >>= _) _ _ _
  refine wpAny_bind (wpAny_field hz rfl (x := .bool false) rfl ?_)
  show wpAny _ _ (field (.ref z) 3 >>= _) _ _ _
  refine wpAny_bind (wpAny_field hz rfl (x := .ref TI) rfl ?_)
  refine wpAny_bind (wpAny_seqItems hTI rfl ?_)
  show wpAny _ _ (Builtin.SmallTypes.ownedTupleIsFree (.ref z) >>= _) _ _ _
  refine wpAny_bind (free_no hz hT fun h₀ hz₀ hn₀ hs₀ => ?_)
  rw [if_neg (by decide)]
  show wpAny _ _ (forIn #[Value.ref i1, Value.ref i2] ((none : Option Fin), (#[] : Array Value)) _ >>= _) _ _ _
  refine wpAny_bind ?_
  rw [← Array.forIn_toList]
  simp only [List.forIn_cons, List.forIn_nil]
  refine wpAny_bind (wpAny_bind (wpAny_holding ?_))
  show wpAny _ _ (Builtin.SmallTypes.nextOf (.ref i1) >>= _) _ _ _
  have h1₀ : h₀.IsTupleIter i1 l1 k1 := h1.at fun o e => hs₀ _ _ D.i1z e
  have hl1₀ : h₀.IsTuple l1 xs := let ⟨o, e, q⟩ := hl1; ⟨o, hs₀ _ _ D.l1z e, q⟩
  refine wpAny_bind (RZ.nextOf_tuple_item h1₀ hl1₀ hx fun h₂ h1₂ hs₂ => wpAny_pure ?_)
  refine wpAny_pure ?_
  refine wpAny_bind (wpAny_bind (wpAny_holding ?_))
  show wpAny _ _ (Builtin.SmallTypes.nextOf (.ref i2) >>= _) _ _ _
  have h2₂ : h₂.IsTupleIter i2 l2 k2 := (h2.at fun o e => hs₀ _ _ D.i2z e).extBut hs₂.extBut D.i12.symm
  have hl2₂ : h₂.IsTuple l2 ys := (show h₀.IsTuple l2 ys from let ⟨o, e, q⟩ := hl2; ⟨o, hs₀ _ _ D.l2z e, q⟩).extBut hs₂.extBut D.l2i1
  refine wpAny_bind (RZ.nextOf_tuple_item h2₂ hl2₂ hy fun h₄ h2₄ hs₄ => wpAny_pure ?_)
  refine wpAny_pure (wpAny_pure ?_)
  refine wpAny_bind (wpAny_newTuple (hsz := by show 2 ≤ sizeLine; decide) ?_)
  have hsz : h₄.objs.size = s.heap.objs.size := by rw [hs₄.1, hs₂.1, hn₀]
  refine wpAny_pure ⟨_, rfl, ?_⟩
  show Q (.ref h₄.objs.size) { s with heap := h₄.push { cls := .type "tuple", data := .seq #[x, y] } }
  have eT : IsPair (h₄.push { cls := .type "tuple", data := .seq #[x, y] }) h₄.objs.size x y := Heap.get?_push_size _ rfl
  have en : (h₄.push { cls := .type "tuple", data := .seq #[x, y] }).objs.size = h₄.objs.size + 1 := Heap.size_push _ _
  have ez : Zp h₄ z TI TO (rawInt T) (.bool true) := hs₄.extBut _ _ D.i2z.symm (hs₂.extBut _ _ D.i1z.symm hz₀)
  have up : ∀ c o, h₄.get? c = some o → (h₄.push { cls := .type "tuple", data := .seq #[x, y] }).get? c = some o := fun c o e => Heap.get?_push_of_some _ e
  rw [hsz] at eT en ⊢
  exact hQ _ (up _ _ ez) ((h1₂.extBut hs₄.extBut D.i12).at fun o e => up _ o e) (h2₄.at fun o e => up _ o e) eT en fun c o c1 c2 c3 e => up _ _ (hs₄.extBut _ _ c3 (hs₂.extBut _ _ c2 (hs₀ _ _ c1 e)))
theorem next_end {z TI TO i1 i2 l1 l2 T : Addr} {k1 k2 : Nat} {xs ys : Array Value} {oT : Obj} {fl : Bool} {Q : Fin → Shared → Prop} (hh : A.handled = none) (D : ZipApart z TI TO i1 i2 l1 l2)
    (hz : Zp s.heap z TI TO (rawInt T) (.bool fl)) (hT : s.heap.get? T = some oT) (hTI : IsPair s.heap TI (.ref i1) (.ref i2))
    (h1 : s.heap.IsTupleIter i1 l1 k1) (h2 : s.heap.IsTupleIter i2 l2 k2) (hl1 : s.heap.IsTuple l1 xs) (hl2 : s.heap.IsTuple l2 ys) (hend : xs[k1]? = none ∨ ys[k2]? = none)
    (hE : ∀ h' e, (∀ c o, c ≠ z → c ≠ i1 → c ≠ i2 → s.heap.get? c = some o → h'.get? c = some o) → (∃ o, h'.get? e = some o ∧ o.cls = .type "StopIteration") → E (.ref e) { s with heap := h' }) :
    wpAny (model prog w) A (Builtin.«zip.__next__» ⟨[.ref z], []⟩) Q E s := by
  show wpAny _ _ (field (.ref z) 2 >>= _) _ _ _
  refine wpAny_bind (wpAny_field hz rfl (x := .bool false) rfl ?_)
  show wpAny _ _ (field (.ref z) 3 >>= _) _ _ _
  refine wpAny_bind (wpAny_field hz rfl (x := .ref TI) rfl ?_)
  refine wpAny_bind (wpAny_seqItems hTI rfl ?_)
  show wpAny _ _ (Builtin.SmallTypes.ownedTupleIsFree (.ref z) >>= _) _ _ _
  refine wpAny_bind (free_no hz hT fun h₀ hz₀ hn₀ hs₀ => ?_)
  rw [if_neg (by decide)]
  show wpAny _ _ (forIn #[Value.ref i1, Value.ref i2] ((none : Option Fin), (#[] : Array Value)) _ >>= _) _ _ _
  refine wpAny_bind ?_
  rw [← Array.forIn_toList]
  simp only [List.forIn_cons, List.forIn_nil]
  refine wpAny_bind (wpAny_bind (wpAny_holding ?_))
  show wpAny _ _ (Builtin.SmallTypes.nextOf (.ref i1) >>= _) _ _ _
  have h1₀ : h₀.IsTupleIter i1 l1 k1 := h1.at fun o e => hs₀ _ _ D.i1z e
  have hl1₀ : h₀.IsTuple l1 xs := let ⟨o, e, q⟩ := hl1; ⟨o, hs₀ _ _ D.l1z e, q⟩
  cases hx : xs[k1]? with
  | none =>
    exact wpAny_bind (RZ.nextOf_tuple_end hh h1₀ hl1₀ hx fun h₂ e hs₂ he => hE h₂ e (fun c o c1 c3 _ x => hs₂ _ _ c3 (hs₀ _ _ c1 x)) he)
  | some x =>
    have hy : ys[k2]? = none := by rcases hend with h | h; rw [hx] at h; cases h; exact h
    refine wpAny_bind (RZ.nextOf_tuple_item h1₀ hl1₀ hx fun h₂ h1₂ hs₂ => wpAny_pure ?_)
    refine wpAny_pure ?_
    refine wpAny_bind (wpAny_bind (wpAny_holding ?_))
    show wpAny _ _ (Builtin.SmallTypes.nextOf (.ref i2) >>= _) _ _ _
    have h2₂ : h₂.IsTupleIter i2 l2 k2 := (h2.at fun o e => hs₀ _ _ D.i2z e).extBut hs₂.extBut D.i12.symm
    have hl2₂ : h₂.IsTuple l2 ys := (show h₀.IsTuple l2 ys from let ⟨o, e, q⟩ := hl2; ⟨o, hs₀ _ _ D.l2z e, q⟩).extBut hs₂.extBut D.l2i1
    exact wpAny_bind (RZ.nextOf_tuple_end hh h2₂ hl2₂ hy fun h₄ e hs₄ he => hE h₄ e (fun c o c1 c3 c4 x => hs₄ _ _ c4 (hs₂.extBut _ _ c3 (hs₀ _ _ c1 x))) he)
theorem py_out {z TI TO i1 i2 l1 l2 T : Addr} {k1 k2 : Nat} {xs ys : Array Value} {x y : Value} {oT : Obj} {fl : Bool} {Q : Option Value → Shared → Prop} (D : ZipApart z TI TO i1 i2 l1 l2)
    (hz : Zp s.heap z TI TO (rawInt T) (.bool fl)) (hT : s.heap.get? T = some oT) (hTI : IsPair s.heap TI (.ref i1) (.ref i2))
    (h1 : s.heap.IsTupleIter i1 l1 k1) (h2 : s.heap.IsTupleIter i2 l2 k2) (hl1 : s.heap.IsTuple l1 xs) (hl2 : s.heap.IsTuple l2 ys) (hx : xs[k1]? = some x) (hy : ys[k2]? = some y) (hTz : T ≠ z)
    (hQ : ∀ h', Zp h' z TI TO (rawInt T) (.bool true) → h'.IsTupleIter i1 l1 (k1 + 1) → h'.IsTupleIter i2 l2 (k2 + 1) → IsPair h' s.heap.objs.size x y → h'.objs.size = s.heap.objs.size + 1 →
      (∀ c o, c ≠ z → c ≠ i1 → c ≠ i2 → s.heap.get? c = some o → h'.get? c = some o) → Q (some (.ref s.heap.objs.size)) { s with heap := h' }) : wpAny (model prog w) A (pyNext (.ref z)) Q E s := by
  have hTy : s.TypeIs (.ref z) "zip" := ⟨_, hz, rfl⟩
  unfold pyNext
  exact wpAny_bind (wpAny_attempt (wpAny_callSpecial?_slot (name := Str.ofString "__next__") hTy F.slot_zip_next
    (wpAny_call_entry F.slot_zip_next hTy F.entry_zip_next
      (next_out D hz hT hTI h1 h2 hl1 hl2 hx hy hTz fun h' a1 a2 a3 a4 a5 a6 => wpAny_pure (hQ h' a1 a2 a3 a4 a5 a6)) (F.args_zip_next_1 _))))
theorem py_end {z TI TO i1 i2 l1 l2 T : Addr} {k1 k2 : Nat} {xs ys : Array Value} {oT : Obj} {fl : Bool} {Q : Option Value → Shared → Prop} (hh : A.handled = none) (D : ZipApart z TI TO i1 i2 l1 l2)
    (hz : Zp s.heap z TI TO (rawInt T) (.bool fl)) (hT : s.heap.get? T = some oT) (hTI : IsPair s.heap TI (.ref i1) (.ref i2))
    (h1 : s.heap.IsTupleIter i1 l1 k1) (h2 : s.heap.IsTupleIter i2 l2 k2) (hl1 : s.heap.IsTuple l1 xs) (hl2 : s.heap.IsTuple l2 ys) (hend : xs[k1]? = none ∨ ys[k2]? = none)
    (hQ : ∀ h', (∀ c o, c ≠ z → c ≠ i1 → c ≠ i2 → s.heap.get? c = some o → h'.get? c = some o) → Q none { s with heap := h' }) : wpAny (model prog w) A (pyNext (.ref z)) Q E s := by
  have hTy : s.TypeIs (.ref z) "zip" := ⟨_, hz, rfl⟩
  unfold pyNext
  refine wpAny_bind (wpAny_attempt (wpAny_callSpecial?_slot (name := Str.ofString "__next__") hTy F.slot_zip_next
    (wpAny_call_entry F.slot_zip_next hTy F.entry_zip_next (next_end hh D hz hT hTI h1 h2 hl1 hl2 hend fun h' e hk he => ?_) (F.args_zip_next_1 _))))
  obtain ⟨o, ho, hc⟩ := he
  refine wpAny_bind (wpAny_isInstance (T := "StopIteration") (b := true) ⟨o, ho, hc⟩ isSubtype_stop ?_)
  exact wpAny_pure (hQ _ hk)
/-- the zip of two lists behind k turns -/
structure ZSt (h : Heap) (z TI TO i1 i2 l1 l2 : Addr) (k : Nat) : Prop where
  rec_ : Zp h z TI TO .none (.bool false) ∨ ∃ (T : Addr) (oT : Obj) (fl : Bool), Zp h z TI TO (rawInt T) (.bool fl) ∧ h.get? T = some oT ∧ T ≠ z
  ti : IsPair h TI (.ref i1) (.ref i2)
  to_ : ∃ a b, IsPair h TO a b
  h1 : h.IsTupleIter i1 l1 k
  h2 : h.IsTupleIter i2 l2 k
theorem z_item {z TI TO i1 i2 l1 l2 : Addr} {k : Nat} {xs ys : Array Value} {x y : Value} {Q : Option Value → Shared → Prop} (D : ZipApart z TI TO i1 i2 l1 l2) (st : ZSt s.heap z TI TO i1 i2 l1 l2 k)
    (hl1 : s.heap.IsTuple l1 xs) (hl2 : s.heap.IsTuple l2 ys) (hx : xs[k]? = some x) (hy : ys[k]? = some y)
    (hQ : ∀ h', ZSt h' z TI TO i1 i2 l1 l2 (k + 1) → IsPair h' s.heap.objs.size x y → h'.objs.size = s.heap.objs.size + 1 →
      (∀ c o, c ≠ z → c ≠ TO → c ≠ i1 → c ≠ i2 → s.heap.get? c = some o → h'.get? c = some o) → Q (some (.ref s.heap.objs.size)) { s with heap := h' }) : wpAny (model prog w) A (pyNext (.ref z)) Q E s := by
  obtain ⟨hr, hti, ⟨a, b, hto⟩, h1, h2⟩ := st
  rcases hr with hz | ⟨T, oT, fl, hz, hT, hTz⟩
  · have hzl : z < s.heap.objs.size := Heap.lt_size hz
    refine RZ.pyNext_zipT_item D hz hti hto h1 h2 hl1 hl2 hx hy fun h' a1 a2 a3 a4 a5 a6 a7 => hQ h' ⟨.inr ⟨_, _, false, a1, a5, Nat.ne_of_gt hzl⟩, a7 _ _ D.TIz D.TITO D.TIi1 D.TIi2 hti, ⟨_, _, a2⟩, a3, a4⟩ a5 a6 a7
  · refine py_out D hz hT hti h1 h2 hl1 hl2 hx hy hTz fun h' a1 a3 a4 a5 a6 a7 => ?_
    have hT' : ∃ o, h'.get? T = some o := by
      by_cases q1 : T = i1
      · subst q1; obtain ⟨o, e, _⟩ := a3; exact ⟨o, e⟩
      · by_cases q2 : T = i2
        · subst q2; obtain ⟨o, e, _⟩ := a4; exact ⟨o, e⟩
        · exact ⟨_, a7 _ _ hTz q1 q2 hT⟩
    obtain ⟨o, eo⟩ := hT'
    exact hQ h' ⟨.inr ⟨T, o, true, a1, eo, hTz⟩, a7 _ _ D.TIz D.TIi1 D.TIi2 hti, ⟨a, b, a7 _ _ D.TOz D.TOi1 D.TOi2 hto⟩, a3, a4⟩ a5 a6 fun c o c1 c2 c3 c4 e => a7 c o c1 c3 c4 e
theorem z_end {z TI TO i1 i2 l1 l2 : Addr} {k : Nat} {xs ys : Array Value} {Q : Option Value → Shared → Prop} (hh : A.handled = none) (D : ZipApart z TI TO i1 i2 l1 l2) (st : ZSt s.heap z TI TO i1 i2 l1 l2 k)
    (hl1 : s.heap.IsTuple l1 xs) (hl2 : s.heap.IsTuple l2 ys) (hend : xs[k]? = none ∨ ys[k]? = none)
    (hQ : ∀ h', (∀ c o, c ≠ z → c ≠ TO → c ≠ i1 → c ≠ i2 → s.heap.get? c = some o → h'.get? c = some o) → Q none { s with heap := h' }) : wpAny (model prog w) A (pyNext (.ref z)) Q E s := by
  obtain ⟨hr, hti, ⟨a, b, hto⟩, h1, h2⟩ := st
  rcases hr with hz | ⟨T, oT, fl, hz, hT, hTz⟩
  · exact RZ.pyNext_zipT_end hh D hz hti hto h1 h2 hl1 hl2 hend hQ
  · exact py_end hh D hz hT hti h1 h2 hl1 hl2 hend fun h' k => hQ h' fun c o c1 _ c3 c4 e => k c o c1 c3 c4 e
theorem ZSt.keep {h h' : Heap} {z TI TO i1 i2 l1 l2 S : Addr} {k : Nat} (st : ZSt h z TI TO i1 i2 l1 l2 k) (up : ∀ b o, b ≠ S → h.get? b = some o → h'.get? b = some o) (n1 : z ≠ S) (n2 : TI ≠ S) (n3 : TO ≠ S) (n4 : i1 ≠ S) (n5 : i2 ≠ S) (hS : ∃ o, h'.get? S = some o) : ZSt h' z TI TO i1 i2 l1 l2 k := by
  obtain ⟨hr, hti, ⟨a, b, hto⟩, h1, h2⟩ := st
  refine ⟨?_, up _ _ n2 hti, ⟨a, b, up _ _ n3 hto⟩, h1.at fun o e => up _ o n4 e, h2.at fun o e => up _ o n5 e⟩
  rcases hr with hz | ⟨T, oT, fl, hz, hT, hTz⟩
  · exact .inl (up _ _ n1 hz)
  · by_cases q : T = S
    · subst q
      obtain ⟨o, e⟩ := hS
      exact .inr ⟨T, o, fl, up _ _ n1 hz, e, hTz⟩
    · exact .inr ⟨T, oT, fl, up _ _ n1 hz, up _ _ q hT, hTz⟩
/-- what the new pairs are -/
structure Prs (xs ys : Array Value) (B0 : Nat) (h : Heap) (as : List Addr) : Prop where
  rise : as.Pairwise (· < ·)
  above : ∀ a ∈ as, B0 ≤ a
  pairs : ∀ (j : Nat) (a : Addr), as[j]? = some a → ∃ x y, xs[j]? = some x ∧ ys[j]? = some y ∧ IsPair h a x y
theorem z_loop {z TI TO i1 i2 l1 l2 S : Addr} {xs ys : Array Value} {B0 n : Nat} {R : Result → Shared → Prop} (hh : A.handled = none) (D : ZipApart z TI TO i1 i2 l1 l2) (n1 : z ≠ S) (n2 : TI ≠ S) (n3 : TO ≠ S) (n4 : i1 ≠ S) (n5 : i2 ≠ S) (n6 : l1 ≠ S) (n7 : l2 ≠ S)
    (bz : z < B0) (bTO : TO < B0) (bi1 : i1 < B0) (bi2 : i2 < B0) (bS : S < B0) (hn : n = min xs.size ys.size) (hsl : n ≤ sizeLine) (res : Value) {h₁ : Heap}
    (hR : ∀ h' tk acc c as, (∀ b o, b ≠ S → b ≠ z → b ≠ TO → b ≠ i1 → b ≠ i2 → h₁.get? b = some o → h'.get? b = some o) → h'.get? S = some { cls := .type "list", dict := none, data := .seq acc c, slots := #[] } → as.length = n → Prs xs ys B0 h' as →
      acc.toList = as.map Value.ref → R (.ok (.ret res)) { s with heap := h', toks := tk }) :
    ∀ (k i : Nat) (h : Heap) (tk c : Nat) (acc : Array Value) (as : List Addr), n - i = k → i ≤ n → ZSt h z TI TO i1 i2 l1 l2 i → h.IsTuple l1 xs → h.IsTuple l2 ys → (∀ b o, b ≠ S → b ≠ z → b ≠ TO → b ≠ i1 → b ≠ i2 → h₁.get? b = some o → h.get? b = some o) →
      h.get? S = some { cls := .type "list", dict := none, data := .seq acc c, slots := #[] } → acc.toList = as.map Value.ref → as.length = i → Prs xs ys B0 h as → B0 ≤ h.objs.size →
      codeAny (model prog w) A (.builtin "list.extend.loop" ⟨[.ref S, .ref z, res], []⟩) R { s with heap := h, toks := tk } := by
  intro k
  induction k with
  | zero =>
    intro i h tk c acc as hk hi hst hL1 hL2 hkeep hS hacc hal hG hIs
    have hin : i = n := by omega
    refine codeAny_builtin PySem.F.entry_extend_loop ?_
    rw [Around.under_plainId PySem.F.plain_extend_loop _]
    show wpAny _ A.in1 (pyNext (.ref z) >>= _) _ _ _
    have hend : xs[i]? = none ∨ ys[i]? = none := by
      rcases Nat.le_total xs.size ys.size with q | q
      · exact .inl (Array.getElem?_eq_none (by omega))
      · exact .inr (Array.getElem?_eq_none (by omega))
    refine wpAny_bind (z_end (s := { s with heap := h, toks := tk }) (A := A.in1) hh D hst hL1 hL2 hend fun h' he => ?_)
    refine wpAny_pure (hR h' tk acc c as (fun b o c0 c1 c2 c3 c4 e => he b o c1 c2 c3 c4 (hkeep b o c0 c1 c2 c3 c4 e)) (he S _ n1.symm n3.symm n4.symm n5.symm hS) (by omega) ⟨hG.rise, hG.above, fun j a hj => ?_⟩ hacc)
    obtain ⟨x, y, e1, e2, e3⟩ := hG.pairs j a hj
    have ha := hG.above a (List.mem_of_getElem? hj)
    exact ⟨x, y, e1, e2, he a _ (Nat.ne_of_gt (Nat.lt_of_lt_of_le bz ha)) (Nat.ne_of_gt (Nat.lt_of_lt_of_le bTO ha)) (Nat.ne_of_gt (Nat.lt_of_lt_of_le bi1 ha)) (Nat.ne_of_gt (Nat.lt_of_lt_of_le bi2 ha)) e3⟩
  | succ k ih =>
    intro i h tk c acc as hk hi hst hL1 hL2 hkeep hS hacc hal hG hIs
    have hxl : i < xs.size := by omega
    have hyl : i < ys.size := by omega
    obtain ⟨x, hx⟩ : ∃ p, xs[i]? = some p := ⟨xs[i], Array.getElem?_eq_getElem hxl⟩
    obtain ⟨y, hy⟩ : ∃ p, ys[i]? = some p := ⟨ys[i], Array.getElem?_eq_getElem hyl⟩
    have hsz : acc.size = i := by rw [← Array.length_toList, hacc, List.length_map, hal]
    refine codeAny_builtin PySem.F.entry_extend_loop ?_
    rw [Around.under_plainId PySem.F.plain_extend_loop _]
    show wpAny _ A.in1 (pyNext (.ref z) >>= _) _ _ _
    refine wpAny_bind (z_item (s := { s with heap := h, toks := tk }) D hst hL1 hL2 hx hy fun h' hst' ht hz hkp => ?_)
    dsimp only at ht hz hkp ⊢
    have hS' := hkp S _ n1.symm n3.symm n4.symm n5.symm hS
    have up : ∀ b o, b ≠ S → h'.get? b = some o → (h'.update S (Obj.mapSeq (·.push (Value.ref h.objs.size)))).get? b = some o := fun b o hb e => (Heap.get?_update_other _ _ (Ne.symm hb)).trans e
    have hSl : S < h.objs.size := Heap.lt_size hS
    have hSn := Heap.get?_update_self (Obj.mapSeq (·.push (Value.ref h.objs.size))) hS' rfl
    have tt : (h'.update S (Obj.mapSeq (·.push (Value.ref h.objs.size)))).get? h.objs.size = _ := up _ _ (Nat.ne_of_gt hSl) ht
    show wpAny _ A.in1 (updateSeq S (·.push (Value.ref h.objs.size)) >>= _) _ _ _
    refine wpAny_bind ?_
    refine wpAny_updateSeq hS' rfl (wpAny_pure ⟨plainId_quiet PySem.F.plain_extend_loop _, ih (i + 1) _ tk _ (acc.push (Value.ref h.objs.size)) (as ++ [h.objs.size]) (by omega) (by omega) (hst'.keep up n1 n2 n3 n4 n5 ⟨_, hSn⟩)
      (let ⟨o, e, q⟩ := hL1; ⟨o, up _ _ n6 (hkp _ _ D.l1z D.l1TO D.l1i1 D.l1i2 e), q⟩) (let ⟨o, e, q⟩ := hL2; ⟨o, up _ _ n7 (hkp _ _ D.l2z D.l2TO D.l2i1 D.l2i2 e), q⟩)
      (fun b o c0 c1 c2 c3 c4 e => up b o c0 (hkp b o c1 c2 c3 c4 (hkeep b o c0 c1 c2 c3 c4 e))) hSn (by rw [Array.toList_push, hacc, List.map_append]; rfl) (by rw [List.length_append, hal]; rfl) ⟨?_, ?_, ?_⟩ (Nat.le_of_lt (Nat.lt_of_le_of_lt hIs (Heap.lt_size tt)))⟩) (by rw [hsz]; omega) (by show (acc.push (Value.ref h.objs.size)).size ≤ sizeLine + 1; rw [Array.size_push, hsz]; omega)
    · refine List.pairwise_append.mpr ⟨hG.rise, List.pairwise_singleton _ _, fun a ha b hb => ?_⟩
      rw [List.mem_singleton.mp hb]
      obtain ⟨j, hj⟩ := List.mem_iff_getElem?.mp ha
      obtain ⟨_, _, _, _, e⟩ := hG.pairs j a hj
      exact Heap.lt_size e
    · intro a ha
      rcases List.mem_append.mp ha with ha | ha
      · exact hG.above a ha
      · rw [List.mem_singleton.mp ha]; exact hIs
    · intro j b hj
      rcases Nat.lt_trichotomy j as.length with h1 | h1 | h1
      · rw [List.getElem?_append_left h1] at hj
        obtain ⟨x', y', e1, e2, e3⟩ := hG.pairs j b hj
        have hb := hG.above b (List.mem_of_getElem? hj)
        have ne : ∀ q, q < B0 → b ≠ q := fun q hq => Nat.ne_of_gt (Nat.lt_of_lt_of_le hq hb)
        exact ⟨x', y', e1, e2, up b _ (ne _ bS) (hkp b _ (ne _ bz) (ne _ bTO) (ne _ bi1) (ne _ bi2) e3)⟩
      · subst h1
        have hb : h.objs.size = b := by simpa using hj
        subst hb
        exact ⟨x, y, by rw [hal]; exact hx, by rw [hal]; exact hy, tt⟩
      · have hnone : (as ++ [h.objs.size])[j]? = none := List.getElem?_eq_none (by rw [List.length_append, List.length_singleton]; omega)
        rw [hnone] at hj; cases hj
theorem zip_no_len : typeLookup (.type "zip") "__len__" = pure none := by rw [typeLookup_type, builtinLookup_eq_fast]; kernel_rfl
theorem zip_no_hint : typeLookup (.type "zip") "__length_hint__" = pure none := by rw [typeLookup_type, builtinLookup_eq_fast]; kernel_rfl
theorem z_hint {z : Addr} (hT : s.TypeIs (.ref z) "zip") {Q : Bool → Shared → Prop} (h : Q true s) : wpAny (model prog w) A (Builtin.List.listLengthHint (.ref z)) Q E s := by
  unfold Builtin.List.listLengthHint
  refine wpAny_bind (wpAny_specialOf hT zip_no_len ?_)
  wp_delta
  refine wpAny_bind ?_
  refine wpAny_specialOf hT zip_no_hint ?_
  exact wpAny_pure h
theorem ZSt.zip {h : Heap} {z TI TO i1 i2 l1 l2 : Addr} {k : Nat} (st : ZSt h z TI TO i1 i2 l1 l2 k) : ∃ f0 f1, Zp h z TI TO f0 f1 := by
  rcases st.rec_ with e | ⟨T, _, fl, e, _⟩
  · exact ⟨_, _, e⟩
  · exact ⟨_, _, e⟩
theorem z_extend {z TI TO i1 i2 l1 l2 S : Addr} {xs ys : Array Value} {n : Nat} {R : Result → Shared → Prop} (hh : A.handled = none) (D : ZipApart z TI TO i1 i2 l1 l2) (n1 : z ≠ S) (n2 : TI ≠ S) (n3 : TO ≠ S) (n4 : i1 ≠ S) (n5 : i2 ≠ S) (n6 : l1 ≠ S) (n7 : l2 ≠ S)
    (hn : n = min xs.size ys.size) (hsl : n ≤ sizeLine) (res : Value) (c₀ : Nat) (hz : Zp s.heap z TI TO .none (.bool false)) (hti : IsPair s.heap TI (.ref i1) (.ref i2)) (hto : ∃ a b, IsPair s.heap TO a b) (h1 : s.heap.IsTupleIter i1 l1 0) (h2 : s.heap.IsTupleIter i2 l2 0)
    (hL1 : s.heap.IsTuple l1 xs) (hL2 : s.heap.IsTuple l2 ys) (hS : s.heap.get? S = some { cls := .type "list", data := .seq #[] c₀ })
    (hR : ∀ h' tk acc c as, (∀ b o, b ≠ S → b ≠ z → b ≠ TO → b ≠ i1 → b ≠ i2 → s.heap.get? b = some o → h'.get? b = some o) → h'.get? S = some { cls := .type "list", dict := none, data := .seq acc c, slots := #[] } → as.length = n → Prs xs ys s.heap.objs.size h' as →
      acc.toList = as.map Value.ref → R (.ok (.ret res)) { s with heap := h', toks := tk }) :
    wpAny (model prog w) A.in1 (Builtin.List.listExtendWith (.ref S) (.ref z) res)
      (fun fin s' => match fin with | .done f => R (.ok f) s' | .again c' => c'.quiet = true ∧ codeAny (model prog w) A c' R s') (fun e s' => R (.error e) s') s := by
  have st : ZSt s.heap z TI TO i1 i2 l1 l2 0 := ⟨.inl hz, hti, hto, h1, h2⟩
  have hTy : s.TypeIs (.ref z) "zip" := ⟨_, hz, rfl⟩
  have key : ∀ (h : Heap) (c₁ tk : Nat), (∀ b o, b ≠ S → s.heap.get? b = some o → h.get? b = some o) → h.objs.size = s.heap.objs.size →
      h.get? S = some { cls := .type "list", data := .seq #[] c₁ } → codeAny (model prog w) A (.builtin "list.extend.loop" ⟨[.ref S, .ref z, res], []⟩) R { s with heap := h, toks := tk } := by
    intro h c₁ tk hk hsz hS₁
    refine z_loop (s := s) (B0 := s.heap.objs.size) (h₁ := s.heap) hh D n1 n2 n3 n4 n5 n6 n7 (Heap.lt_size hz) (let ⟨_, _, e⟩ := hto; Heap.lt_size e) (let ⟨_, e, _⟩ := h1; Heap.lt_size e) (let ⟨_, e, _⟩ := h2; Heap.lt_size e) (Heap.lt_size hS) hn hsl res hR
      n 0 h tk c₁ #[] [] (Nat.sub_zero _) (Nat.zero_le _) (st.keep hk n1 n2 n3 n4 n5 ⟨_, hS₁⟩) (let ⟨o, e, q⟩ := hL1; ⟨o, hk _ _ n6 e, q⟩) (let ⟨o, e, q⟩ := hL2; ⟨o, hk _ _ n7 e, q⟩) (fun b o hb _ _ _ _ e => hk b o hb e) hS₁ rfl rfl
      ⟨List.Pairwise.nil, (fun _ ha => nomatch ha), (fun j a hj => by simp at hj)⟩ (Nat.le_of_eq hsz.symm)
  unfold Builtin.List.listExtendWith
  refine wpAny_bind (wpAny_typeOf (T := "zip") hTy ?_)
  have g1 : Builtin.List.listSameRef (.ref S) (.ref z) = false := by simp [Builtin.List.listSameRef, n1.symm]
  have g2 : (Value.type "zip" == Value.type "list") = false := by decide
  have g3 : (Value.type "zip" == Value.type "tuple") = false := by decide
  simp only [g1, g2, g3, Bool.or_false, Bool.false_eq_true, if_false]
  refine wpAny_bind (wpAny_pyIter_zip hz ?_)
  refine wpAny_bind (wpAny_holding (z_hint hTy ?_))
  refine wpAny_ite_split (fun _ => ?_) (fun _ => wpAny_pure ⟨plainId_quiet PySem.F.plain_extend_loop _, key _ c₀ _ (fun b o _ e => e) rfl hS⟩)
  refine wpAny_bind (wpAny_rule ?_)
  refine wpAny_bind ?_
  show wpAny _ _ (updateSeq S (·.push .none) >>= fun _ => updateSeq S (·.pop)) _ _ _
  refine wpAny_bind (wpAny_updateSeq hS rfl ?_)
  have hS₂ := Heap.get?_update_self (Obj.mapSeq (·.push Value.none)) hS rfl
  refine wpAny_updateSeq (hz := by seq_fits) hS₂ rfl ?_
  have hS₃ := Heap.get?_update_self (Obj.mapSeq (·.pop)) hS₂ rfl
  refine wpAny_pure ⟨plainId_quiet PySem.F.plain_extend_loop _, key _ _ _ (fun b o hb e => ?_) (by simp [Heap.size_update]) hS₃⟩
  exact (Heap.get?_update_other _ _ (Ne.symm hb)).trans ((Heap.get?_update_other _ _ (Ne.symm hb)).trans e)
theorem z_init {z TI TO i1 i2 l1 l2 S : Addr} {xs ys : Array Value} {n : Nat} {R : Result → Shared → Prop} (hh : A.handled = none) (D : ZipApart z TI TO i1 i2 l1 l2) (n1 : z ≠ S) (n2 : TI ≠ S) (n3 : TO ≠ S) (n4 : i1 ≠ S) (n5 : i2 ≠ S) (n6 : l1 ≠ S) (n7 : l2 ≠ S)
    (hn : n = min xs.size ys.size) (hsl : n ≤ sizeLine) (hz : Zp s.heap z TI TO .none (.bool false)) (hti : IsPair s.heap TI (.ref i1) (.ref i2)) (hto : ∃ a b, IsPair s.heap TO a b) (h1 : s.heap.IsTupleIter i1 l1 0) (h2 : s.heap.IsTupleIter i2 l2 0)
    (hL1 : s.heap.IsTuple l1 xs) (hL2 : s.heap.IsTuple l2 ys) (hS : s.heap.get? S = some { cls := .type "list", data := .seq #[] })
    (hR : ∀ h' tk acc c as, (∀ b o, b ≠ S → b ≠ z → b ≠ TO → b ≠ i1 → b ≠ i2 → s.heap.get? b = some o → h'.get? b = some o) → h'.get? S = some { cls := .type "list", dict := none, data := .seq acc c, slots := #[] } → as.length = n → Prs xs ys s.heap.objs.size h' as →
      acc.toList = as.map Value.ref → R (.ok (.ret .none)) { s with heap := h', toks := tk }) :
    wpAny (model prog w) A.in1 (Builtin.«list.__init__» ⟨[.ref S, .ref z], []⟩)
      (fun fin s' => match fin with | .done f => R (.ok f) s' | .again c' => c'.quiet = true ∧ codeAny (model prog w) A c' R s') (fun e s' => R (.error e) s') s := by
  show wpAny _ _ (do let old ← Builtin.List.listItems (.ref S); Builtin.List.listUpdate (.ref S) (fun _ => #[]); letGo old.toList.reverse; Builtin.List.listExtendWith (.ref S) (.ref z) .none) _ _ s
  refine wpAny_bind ?_
  unfold Builtin.List.listItems
  refine wpAny_bind (wpAny_seqItems hS rfl (wpAny_pure ?_))
  show wpAny _ _ (updateSeq S (fun _ => #[]) >>= fun _ => letGo (#[] : Array Value).toList.reverse >>= fun _ => Builtin.List.listExtendWith (.ref S) (.ref z) .none) _ _ s
  refine wpAny_bind (wpAny_updateSeq hS rfl ?_)
  have hS₂ := Heap.get?_update_self (Obj.mapSeq (fun _ => (#[] : Array Value))) hS rfl
  have oth : ∀ b o, b ≠ S → s.heap.get? b = some o → (s.heap.update S (Obj.mapSeq (fun _ => (#[] : Array Value)))).get? b = some o :=
    fun b o hb e => (Heap.get?_update_other _ _ (Ne.symm hb)).trans e
  have hzz : (s.heap.update S (Obj.mapSeq (fun _ => (#[] : Array Value)))).objs.size = s.heap.objs.size := by simp [Heap.size_update]
  refine wpAny_bind (wpAny_letGo ?_)
  refine z_extend hh D n1 n2 n3 n4 n5 n6 n7 hn hsl .none _ (oth _ _ n1 hz) (oth _ _ n2 hti) (let ⟨a, b, e⟩ := hto; ⟨a, b, oth _ _ n3 e⟩) (h1.at fun o e => oth _ o n4 e) (h2.at fun o e => oth _ o n5 e)
    (let ⟨o, e, q⟩ := hL1; ⟨o, oth _ _ n6 e, q⟩) (let ⟨o, e, q⟩ := hL2; ⟨o, oth _ _ n7 e, q⟩) hS₂ (fun h' tk acc c as hk hS' hl hG hacc => ?_)
  exact hR h' tk acc c as (fun b o hb b1 b2 b3 b4 e => hk b o hb b1 b2 b3 b4 (oth b o hb e)) hS' hl (by rw [← hzz]; exact hG) hacc
theorem z_call {z TI TO i1 i2 l1 l2 : Addr} {xs ys : Array Value} {n : Nat} {Q : Value → Shared → Prop} (hh : A.handled = none) (D : ZipApart z TI TO i1 i2 l1 l2)
    (hn : n = min xs.size ys.size) (hsl : n ≤ sizeLine) (hz : Zp s.heap z TI TO .none (.bool false)) (hti : IsPair s.heap TI (.ref i1) (.ref i2)) (hto : ∃ a b, IsPair s.heap TO a b) (h1 : s.heap.IsTupleIter i1 l1 0) (h2 : s.heap.IsTupleIter i2 l2 0)
    (hL1 : s.heap.IsTuple l1 xs) (hL2 : s.heap.IsTuple l2 ys)
    (hQ : ∀ h' tk acc c as, (∀ b o, b ≠ z → b ≠ TO → b ≠ i1 → b ≠ i2 → s.heap.get? b = some o → h'.get? b = some o) → h'.get? s.heap.objs.size = some { cls := .type "list", dict := none, data := .seq acc c, slots := #[] } → as.length = n → Prs xs ys (s.heap.objs.size + 1) h' as →
      acc.toList = as.map Value.ref → Q (.ref s.heap.objs.size) { s with heap := h', toks := tk }) :
    wpAny (model prog w) A (call (.type "list") [.ref z]) Q E s := by
  refine callType_codes (Q₁ := fun obj s₁ => obj = .ref s.heap.objs.size ∧ s₁ = { s with heap := s.heap.push { cls := .type "list", data := .seq #[] } }) PySem.F.called_list (PySem.F.typeCall_list_1 _) PySem.F.entry_list_init
    (code_list_new _ ⟨rfl, rfl⟩) fun obj s₁ h₁ => ?_
  obtain ⟨rfl, rfl⟩ := h₁
  have hS : (s.heap.push { cls := .type "list", data := .seq #[] }).get? s.heap.objs.size = some { cls := .type "list", data := .seq #[] } := Heap.get?_push_size _ rfl
  have up : ∀ b o, s.heap.get? b = some o → (s.heap.push { cls := .type "list", data := .seq #[] }).get? b = some o := fun b o e => Heap.get?_push_of_some _ e
  have lt : ∀ (b : Addr) (o : Obj), s.heap.get? b = some o → b ≠ s.heap.objs.size := fun b o e => Nat.ne_of_lt (Heap.lt_size e)
  have hzz : (s.heap.push { cls := .type "list", data := .seq #[] }).objs.size = s.heap.objs.size + 1 := Heap.size_push _ _
  refine ⟨⟨_, hS, rfl⟩, PySem.F.args_list_init_2 _ _, z_init (A := A.in1) hh D (lt _ _ hz) (lt _ _ hti) (let ⟨_, _, e⟩ := hto; lt _ _ e) (let ⟨_, e, _⟩ := h1; lt _ _ e) (let ⟨_, e, _⟩ := h2; lt _ _ e) (let ⟨_, e, _⟩ := hL1; lt _ _ e) (let ⟨_, e, _⟩ := hL2; lt _ _ e)
    hn hsl (up _ _ hz) (up _ _ hti) (let ⟨a, b, e⟩ := hto; ⟨a, b, up _ _ e⟩) (h1.at fun o e => up _ o e) (h2.at fun o e => up _ o e) (let ⟨o, e, q⟩ := hL1; ⟨o, up _ _ e, q⟩) (let ⟨o, e, q⟩ := hL2; ⟨o, up _ _ e, q⟩) hS (fun h' tk acc c as hk hS' hl hG hacc => ?_)⟩
  exact ⟨rfl, hQ h' tk acc c as (fun b o b1 b2 b3 b4 e => hk b o (lt _ _ e) b1 b2 b3 b4 (up _ _ e)) hS' hl (by rw [← hzz]; exact hG) hacc⟩
end ZT
end PySem

set_option maxHeartbeats 4000000
namespace ZH
open PySem PySem.Spec PyProof.Rows L2
def putP (ob : Addr → Obj) : Hp → List Addr → List (V × V) → Hp
  | H, a :: as, p :: kvs => putP ob (upd H a (.frz (ob a) (.tup [p.1, p.2]))) as kvs
  | H, _, _ => H
theorem putP_off {ob : Addr → Obj} {b : Addr} : ∀ (as : List Addr) (kvs : List (V × V)) (H : Hp), b ∉ as → putP ob H as kvs b = H b
  | [], _, _, _ => rfl
  | _ :: _, [], _, _ => rfl
  | a :: as, p :: kvs, H, h => by
    show putP ob (upd H a (.frz (ob a) (.tup [p.1, p.2]))) as kvs b = H b
    rw [putP_off as kvs _ (fun z => h (List.mem_cons_of_mem _ z)), upd_ne (fun z => h (by rw [z]; exact List.mem_cons_self))]
theorem putP_at {ob : Addr → Obj} : ∀ (as : List Addr) (kvs : List (V × V)) (H : Hp), as.length = kvs.length → as.Nodup → Paired (fun (t : Addr) (p : V × V) => putP ob H as kvs t = some (.frz (ob t) (.tup [p.1, p.2]))) as kvs
  | [], [], _, _, _ => .nil
  | [], _ :: _, _, h, _ => by cases h
  | _ :: _, [], _, h, _ => by cases h
  | a :: as, p :: kvs, H, h, hn => by
    have hn' := List.nodup_cons.mp hn
    have ih := putP_at (ob := ob) as kvs (upd H a (.frz (ob a) (.tup [p.1, p.2]))) (Nat.succ.inj h) hn'.2
    refine .cons ?_ ih
    show putP ob (upd H a (.frz (ob a) (.tup [p.1, p.2]))) as kvs a = some (.frz (ob a) (.tup [p.1, p.2]))
    rw [putP_off as kvs _ hn'.1, upd_same]
theorem laid {X : Cx} {pins : List (Addr × Obj)} {σ : L2.St} {H : Hp} {s : Shared} {h' : Heap} {tk : Nat} {kvs : List (V × V)} {acc : Array Value} {c : Nat} {as : List Addr} {B : Addr} (I : Inv X pins σ H s) (hz : kvs.length ≤ sizeLine) (hB : s.heap.objs.size ≤ B)
    (hk : ∀ b o, s.heap.get? b = some o → h'.get? b = some o) (hS : h'.get? B = some { cls := .type "list", dict := none, data := .seq acc c, slots := #[] }) (hl : as.length = kvs.length) (nd : as.Nodup) (hab : ∀ a ∈ as, B < a)
    (hG : ∀ (j : Nat) (a : Addr), as[j]? = some a → ∃ p u v, kvs[j]? = some p ∧ RelV p.1 u ∧ RelV p.2 v ∧ h'.get? a = some { cls := .type "tuple", data := .seq #[u, v] }) (hacc : acc.toList = as.map Value.ref) :
    ∃ H' : Hp, (∀ b o, H b = some o → H' b = some o) ∧ H B = none ∧ (∀ t ∈ as, H t = none) ∧ B ∉ as ∧ H' B = some (.lst (as.map V.ref)) ∧ Paired (fun (t : Addr) (q : V × V) => ∃ o, H' t = some (.frz o (.tup [q.1, q.2])) ∧ Obj.dict o = none) as kvs ∧ Inv X pins σ H' { s with heap := h', toks := tk } := by
  have hSn : B ∉ as := fun z => Nat.lt_irrefl _ (hab _ z)
  have new : ∀ t ∈ as, H t = none := fun t ht => I.hok.fresh (Nat.le_of_lt (Nat.lt_of_le_of_lt hB (hab t ht)))
  have newS : H B = none := I.hok.fresh hB
  have atP := putP_at (ob := fun a => (h'.get? a).getD { cls := .none, data := .fields #[] }) as kvs (upd H B (.lst (as.map V.ref))) hl nd
  have off : ∀ b, b ∉ as → b ≠ B → putP (fun a => (h'.get? a).getD { cls := .none, data := .fields #[] }) (upd H B (.lst (as.map V.ref))) as kvs b = H b := fun b h1 h2 => by rw [putP_off as kvs _ h1, upd_ne h2]
  have low : ∀ b o, s.heap.get? b = some o → b ∉ as ∧ b ≠ B := fun b o e => ⟨fun z => absurd (Heap.lt_size e) (Nat.not_lt.mpr (Nat.le_of_lt (Nat.lt_of_le_of_lt hB (hab b z)))), Nat.ne_of_lt (Nat.lt_of_lt_of_le (Heap.lt_size e) hB)⟩
  have kp : ∀ b u, H b = some u → (putP (fun a => (h'.get? a).getD { cls := .none, data := .fields #[] }) (upd H B (.lst (as.map V.ref))) as kvs) b = some u := fun b u e => by
    rw [off b (fun z => by rw [new b z] at e; cases e) (fun z => by rw [z, newS] at e; cases e)]
    exact e
  have eS : putP (fun a => (h'.get? a).getD { cls := .none, data := .fields #[] }) (upd H B (.lst (as.map V.ref))) as kvs B = some (.lst (as.map V.ref)) := by rw [putP_off as kvs _ hSn, upd_same]
  have obT : ∀ (j : Nat) (a : Addr), as[j]? = some a → Obj.dict ((h'.get? a).getD { cls := .none, data := .fields #[] }) = none := fun j a e => by
    obtain ⟨p, u, v, _, _, _, f4⟩ := hG j a e
    rw [f4]
    rfl
  have atQ : Paired (fun (t : Addr) (q : V × V) => ∃ o, putP (fun a => (h'.get? a).getD { cls := .none, data := .fields #[] }) (upd H B (.lst (as.map V.ref))) as kvs t = some (.frz o (.tup [q.1, q.2])) ∧ Obj.dict o = none) as kvs := by
    have gen : ∀ {ts : List Addr} {qs : List (V × V)}, (∀ t ∈ ts, t ∈ as) → Paired (fun (t : Addr) (p : V × V) => putP (fun a => (h'.get? a).getD { cls := .none, data := .fields #[] }) (upd H B (.lst (as.map V.ref))) as kvs t = some (.frz ((h'.get? t).getD { cls := .none, data := .fields #[] }) (.tup [p.1, p.2]))) ts qs →
        Paired (fun (t : Addr) (q : V × V) => ∃ o, putP (fun a => (h'.get? a).getD { cls := .none, data := .fields #[] }) (upd H B (.lst (as.map V.ref))) as kvs t = some (.frz o (.tup [q.1, q.2])) ∧ Obj.dict o = none) ts qs := by
      intro ts qs hs hp
      induction hp with
      | nil => exact .nil
      | @cons t q ts qs h1 h2 ih =>
        obtain ⟨j, hj⟩ := List.getElem?_of_mem (hs t List.mem_cons_self)
        exact .cons ⟨_, h1, obT j t hj⟩ (ih fun t ht => hs t (List.mem_cons_of_mem _ ht))
    exact gen (fun _ h => h) atP
  refine ⟨putP (fun a => (h'.get? a).getD { cls := .none, data := .fields #[] }) (upd H B (.lst (as.map V.ref))) as kvs, kp, newS, new, hSn, eS, atQ, ?_⟩
  refine I.call' (ch := []) rfl ⟨fun b o q _ _ _ => hk b o q, fun b o q _ _ _ => ⟨o.slots, hk b o q⟩, fun b o q n _ => ?_, fun b o q _ => ⟨o, hk b o q⟩, fun b xs q => kp b _ q, fun b o u q => kp b _ q, fun b ps q => ⟨#[], by rw [kp b _ q]; simp⟩⟩ (fun b u q => ?_) I.bare fun b z => by simp at z
  · obtain ⟨z1, z2⟩ := low b o q
    rw [off b z1 z2]
    exact n
  · by_cases hb : b ∈ as
    · obtain ⟨j, pk, e1, e2, e3⟩ := LiI.paired_ix atP hb
      rw [e3] at q
      cases q
      obtain ⟨p, u, v, f1, f2, f3, f4⟩ := hG j b e1
      rw [f1] at e2
      cases e2
      exact ⟨by rw [f4]; rfl, by show 2 ≤ sizeLine; decide, [u, v], .cons f2 (.cons f3 .nil), ⟨_, f4, rfl, _, rfl⟩⟩
    · by_cases hb2 : b = B
      · rw [hb2] at q ⊢
        rw [eS] at q
        cases q
        refine ⟨by rw [List.length_map]; omega, acc.toList, c, by rw [hacc]; exact LiI.vals_refs as, ?_⟩
        rw [Array.toArray_toList]
        exact hS
      · rw [off b hb hb2] at q
        exact (I.hok b u q).stay (fun d v _ y => hk d v y) (fun d y => kp d _ y) fun d xs y => kp d _ y
/-- list(zip(a, b)) -/
def rZipL (K : PySem.W.Frag) : List V → Hp → VK → Prop := fun vs H Q => ∃ (a b : Addr) (xs ys : List V), vs = [.ref a, .ref b] ∧ ((SqL K H a xs ∧ SqL K H b ys) ∨ (SqT K H a xs ∧ SqT K H b ys)) ∧
  ∀ (H' : Hp) (p : Addr) (ts : List Addr), (∀ b o, H b = some o → H' b = some o) → H p = none → (∀ t ∈ ts, H t = none) → p ∉ ts → H' p = some (.lst (ts.map V.ref)) → Paired (fun (t : Addr) (q : V × V) => ∃ o, H' t = some (.frz o (.tup [q.1, q.2])) ∧ Obj.dict o = none) ts (xs.zip ys) → Q (.ref p) H'
def tListZip (K : PySem.W.Frag) (ta : TA) : TE := fun σ H Q => ta σ H fun vs H1 => rZipL K vs H1 Q
theorem pairsOf {xs ys : List V} {us vs : List Value} (r : Vals xs us) (r' : Vals ys vs) {j : Nat} {x y : Value} (hx : us.toArray[j]? = some x) (hy : vs.toArray[j]? = some y) : ∃ p, (xs.zip ys)[j]? = some p ∧ RelV p.1 x ∧ RelV p.2 y := by
  have lx := r.length
  have ly := r'.length
  have jx : j < us.length := by by_cases q : j < us.length; exact q; rw [Array.getElem?_eq_none (by simp; omega)] at hx; cases hx
  have jy : j < vs.length := by by_cases q : j < vs.length; exact q; rw [Array.getElem?_eq_none (by simp; omega)] at hy; cases hy
  have ex : xs[j]? = some (xs[j]'(by omega)) := List.getElem?_eq_getElem (by omega)
  have ey : ys[j]? = some (ys[j]'(by omega)) := List.getElem?_eq_getElem (by omega)
  obtain ⟨u, e1, g1⟩ := r.get ex
  obtain ⟨v, e2, g2⟩ := r'.get ey
  have hx' : us[j]? = some x := by simpa using hx
  have hy' : vs[j]? = some y := by simpa using hy
  rw [e1] at hx'; cases hx'
  rw [e2] at hy'; cases hy'
  exact ⟨(_, _), List.getElem?_zip_eq_some.mpr ⟨ex, ey⟩, g1, g2⟩
end ZH

set_option maxHeartbeats 4000000
namespace ZH
open PySem PySem.Spec PyProof.Rows L2
section
variable {X : Cx} {e e2 : Expr} {ta : TA} {p zp zpos pos : Pos}
theorem pe_listZip (hc : X.calm = true) (ha : PA X [e, e2] ta) (hg : Gl X "list") (hm : X.mg "list" = none) (hv : bootBuiltins "list" = some (.type "list")) (hgz : Gl X "zip") (hmz : X.mg "zip" = none)
    (hs : starEach [.Call (.Name "zip" zp) [e, e2] [] zpos] X.env = (false, eval (.Call (.Name "zip" zp) [e, e2] [] zpos) X.env) :: starEach [] X.env := by rfl)
    (hs2 : starEach [e, e2] X.env = (false, eval e X.env) :: starEach [e2] X.env := by rfl) (hpl : (backTo zpos (starEach [e2] X.env)).any (·.1) = false := by rfl) :
    PE X (.Call (.Name "list" p) [.Call (.Name "zip" zp) [e, e2] [] zpos] [] pos) (tListZip X.K ta) := by
  refine ⟨fun pins s σ H Q I hq => ?_⟩
  refine wpAny_Call_Name_kw (ld_blt I hg hm hv ?_)
  refine PyProof.Rows.callWith_type1 ?_ hs rfl
  rw [hs]
  show wpAny _ _ (spliced ((false, eval (.Call (.Name "zip" zp) [e, e2] [] zpos) X.env) :: backTo pos (starEach [] X.env))) _ _ s
  refine Calls.spliced_cons ?_
  refine Call_ (ld_blt I hgz hmz PyProof.Rows.boot_zip (PyProof.Rows.callWith_type1 (thn (ha.run zpos pins s σ H _ I hq) fun us s1 ⟨vs, H1, I1, r1, q1⟩ => ?_) hs2 hpl))
  obtain ⟨a, b, xs, ys, ex, hq, q⟩ := q1
  subst ex
  cases r1 with
  | cons r rr =>
    cases rr with
    | cons r' rr =>
      cases rr
      cases r
      cases r'
      have hh := I1.ok.hd hc
      have nxt : ∀ (its its2 : List Value) (h' : Heap) (tk : Nat) (acc : Array Value) (c : Nat) (as : List Addr), Vals xs its → Vals ys its2 → xs.length ≤ sizeLine → (∀ b o, s1.heap.get? b = some o → h'.get? b = some o) → h'.get? (s1.heap.objs.size + 5) = some { cls := .type "list", dict := none, data := .seq acc c, slots := #[] } →
          as.length = min its.toArray.size its2.toArray.size → as.Pairwise (· < ·) → (∀ a ∈ as, s1.heap.objs.size + 6 ≤ a) → (∀ (j : Nat) (a : Addr), as[j]? = some a → ∃ x y, its.toArray[j]? = some x ∧ its2.toArray[j]? = some y ∧ h'.get? a = some { cls := .type "tuple", data := .seq #[x, y] }) →
          acc.toList = as.map Value.ref → ∃ v H', Inv X pins σ H' { s1 with heap := h', toks := tk } ∧ RelV v (.ref (s1.heap.objs.size + 5)) ∧ Q v H' := by
        intro its its2 h' tk acc c as rv rv2 hz hk hS hl hr hab hG hacc
        have l1 := rv.length
        have l2 := rv2.length
        have lz : as.length = (xs.zip ys).length := by rw [hl, List.length_zip]; simp; omega
        obtain ⟨H', k1, k2, k3, k4, k5, k6, J⟩ := laid (tk := tk) (kvs := xs.zip ys) (B := s1.heap.objs.size + 5) I1 (by rw [List.length_zip]; omega) (Nat.le_add_right _ _) hk hS lz (List.Pairwise.imp (fun {a b} (h : a < b) => Nat.ne_of_lt h) hr) (fun a h => hab a h)
          (fun j a h => by
            obtain ⟨x, y, e1, e2, e3⟩ := hG j a h
            obtain ⟨p, g1, g2, g3⟩ := pairsOf rv rv2 e1 e2
            exact ⟨p, x, y, g1, g2, g3, e3⟩) hacc
        exact ⟨.ref _, H', J, rfl, q H' _ as k1 k2 k3 k4 k5 k6⟩
      rcases hq with ⟨hqx, hqy⟩ | ⟨hqx, hqy⟩
      · obtain ⟨its, rv, p1, z1⟩ := I1.list hqx
        obtain ⟨its2, rv2, p2, z2⟩ := I1.list hqy
        have lx := rv.length
        have D := PyProof.Rows.zipApart_new p1.lt p2.lt
        refine call_zip_2 p1.isList p2.isList fun h' hz hTI hTO h1 h2 hsz hk => ?_
        refine Calls.spliced_nil ?_
        refine PySem.ZL.z_call (s := { s1 with heap := h' }) (n := min its.toArray.size its2.toArray.size) hh D rfl (by simp; omega) hz hTI ⟨_, _, hTO⟩ h1 h2 (let ⟨o, e, q⟩ := p1.isList; ⟨o, hk _ _ e, q⟩) (let ⟨o, e, q⟩ := p2.isList; ⟨o, hk _ _ e, q⟩) fun h'' tk acc c as hk' hS hl hG hacc => ?_
        dsimp only at hS hG ⊢
        rw [hsz] at hS hG ⊢
        refine nxt its its2 h'' tk acc c as rv rv2 z1 (fun b o e => ?_) hS hl hG.rise hG.above hG.pairs hacc
        have lb := Heap.lt_size e
        exact hk' b o (Nat.ne_of_lt (Nat.lt_add_right 4 lb)) (Nat.ne_of_lt (Nat.lt_add_right 3 lb)) (Nat.ne_of_lt lb) (Nat.ne_of_lt (Nat.lt_add_right 1 lb)) (hk b o e)
      · obtain ⟨its, rv, p1, z1⟩ := I1.tuple hqx
        obtain ⟨its2, rv2, p2, z2⟩ := I1.tuple hqy
        obtain ⟨o1, ho1, _⟩ := id p1
        obtain ⟨o2, ho2, _⟩ := id p2
        have lx := rv.length
        have t1 : s1.heap.IsTuple a its.toArray := p1
        have t2 : s1.heap.IsTuple b its2.toArray := p2
        have D := PyProof.Rows.zipApart_new (Heap.lt_size ho1) (Heap.lt_size ho2)
        refine RZ.call_zipT t1 t2 fun h' hz hTI hTO h1 h2 hsz hk => ?_
        refine Calls.spliced_nil ?_
        refine PySem.ZT.z_call (s := { s1 with heap := h' }) (n := min its.toArray.size its2.toArray.size) hh D rfl (by simp; omega) hz hTI ⟨_, _, hTO⟩ h1 h2 (let ⟨o, e, q⟩ := t1; ⟨o, hk _ _ e, q⟩) (let ⟨o, e, q⟩ := t2; ⟨o, hk _ _ e, q⟩) fun h'' tk acc c as hk' hS hl hG hacc => ?_
        dsimp only at hS hG ⊢
        rw [hsz] at hS hG ⊢
        refine nxt its its2 h'' tk acc c as rv rv2 z1 (fun b o e => ?_) hS hl hG.rise hG.above hG.pairs hacc
        have lb := Heap.lt_size e
        exact hk' b o (Nat.ne_of_lt (Nat.lt_add_right 4 lb)) (Nat.ne_of_lt (Nat.lt_add_right 3 lb)) (Nat.ne_of_lt lb) (Nat.ne_of_lt (Nat.lt_add_right 1 lb)) (hk b o e)
end
end ZH

set_option maxHeartbeats 4000000
namespace Ev
open PySem PySem.Spec PyProof.Rows L2
/-- plain data: what a Python value is worth -/
inductive D where
  | non | bl (b : Bool) | int (i : Int) | str (x : Str)
  | tup (xs : List D) | lst (xs : List D)
  | dic (ks : List Key) (vs : List D)
  | dct (ks : List D) (vs : List D)
  | ins (c : Nat) (fs : List D)
  | lck (ns : List Int)
  | cl (c : Nat)
  | xv
/-- the program's classes: name, fields in the order of their making -/
structure Cl where
  name : Str
  fields : List Str
def clsT : Nat → Cl
  | 0 => ⟨"Library", ["_locks", "_hook_rows", "_routine_rows", "_entries"]⟩
  | 1 => ⟨"Reader", ["known", "lock_names", "hook_rows", "routine_rows", "entry_names", "call_lengths", "expected", "part", "current", "body", "taken", "cost"]⟩
  | 2 => ⟨"Thread", ["_library", "_frames", "_held", "_pending", "_length", "_run"]⟩
  | 3 => ⟨"Machine", ["_library", "_reentrant", "_threads", "_steps"]⟩
  | 4 => ⟨"Search", ["library", "held_there", "before", "late_ways", "settled", "candidates"]⟩
  | 5 => ⟨"Table", ["_locks", "_lengths", "rows"]⟩
  | 6 => ⟨"Unsafe", ["reentrant", "_library", "requests", "total", "threads", "schedule"]⟩
  | _ => ⟨"Safe", ["reentrant", "contexts", "chains"]⟩
def clsA (K : PySem.W.Frag) (c : Nat) : Addr := He.ga K (clsT c).name
/-- the world of the run -/
class Wd where
  w : World
variable [Wd]
mutual
/-- what a key of tuples, numbers, texts and None is -/
def nkD : D → Option NestedKey
  | .non => some .none
  | .int i => some (.num i)
  | .str x => some (.text x)
  | .tup ds => (nksD ds).map NestedKey.tup
  | _ => none
def nksD : List D → Option (List NestedKey)
  | [] => some []
  | d :: ds => (nkD d).bind fun k => (nksD ds).map (k :: ·)
end
def nkT : D → Option NestedKey
  | .tup ds => (nksD ds).bind fun ks => if (NestedKey.tup ks).depth ≤ 8 then some (.tup ks) else none
  | _ => none
/-- a dict with such keys -/
def dnO (a : Addr) (o : Obj) (kvs : List (NestedKey × Addr × V)) : HO := .ext fun h => kvs.length ≤ sizeLine ∧ (a == sysModules) = false ∧ ∃ (es : Array DictEntry) (ep : Nat) (xs : List (NestedKey × Addr × Value)),
  h.get? a = some o ∧ o.ExactDict ∧ o.data = .dict es ep ∧ es.toList = xs.map (fun x => ⟨x.1.hash Wd.w, .ref x.2.1, x.2.2⟩) ∧ (xs.map (·.1)).Nodup ∧ Paired (fun (p : NestedKey × Addr × V) (q : NestedKey × Addr × Value) => p.1 = q.1 ∧ p.2.1 = q.2.1 ∧ RelV p.2.2 q.2.2) kvs xs
def noStr : V → Bool
  | .str _ => false
  | _ => true
/-- a tuple: known to have no dict of its own, or not of texts alone -/
def TupE (H : Hp) (a : Addr) (vs : List V) : Prop := (∃ o, H a = some (.frz o (.tup vs)) ∧ o.dict = none) ∨ (H a = some (.tup vs) ∧ vs.any noStr = true)
theorem TupE.mono {H H' : Hp} {a : Addr} {vs : List V} (h : TupE H a vs) (s : Same H H') : TupE H' a vs := by
  rcases h with ⟨o, h, e⟩ | ⟨h, e⟩
  · exact .inl ⟨o, s _ _ h, e⟩
  · exact .inr ⟨s _ _ h, e⟩
theorem TupE.sq {K : PySem.W.Frag} {H : Hp} {a : Addr} {vs : List V} (h : TupE H a vs) : SqT K H a vs := by
  rcases h with ⟨o, h, e⟩ | ⟨h, e⟩
  · exact .inl (.inr ⟨o, h⟩)
  · exact .inl (.inl h)
theorem TupE.inj {H : Hp} {a : Addr} {vs ws : List V} (h : TupE H a vs) (h' : TupE H a ws) : vs = ws := by
  rcases h with ⟨o, h, _⟩ | ⟨h, _⟩ <;> rcases h' with ⟨o', h', _⟩ | ⟨h', _⟩ <;> rw [h] at h' <;> cases h' <;> rfl
mutual
/-- the value v stands for d, by objects of H -/
def Is (K : PySem.W.Frag) (H : Hp) : D → V → Prop
  | .non, v => v = .non
  | .bl b, v => v = .bl b
  | .int i, v => v = .int i
  | .str x, v => v = .str x ∧ PyData.strOk x = true
  | .tup ds, v => ∃ a vs, v = .ref a ∧ TupE H a vs ∧ IsL K H ds vs
  | .lst ds, v => ∃ a vs, v = .ref a ∧ H a = some (.lst vs) ∧ IsL K H ds vs
  | .dic ks ds, v => ∃ a kvs, v = .ref a ∧ H a = some (.dK kvs) ∧ kvs.map (·.1) = ks ∧ IsL K H ds (kvs.map (·.2))
  | .dct ks ds, v => ∃ a o kvs, v = .ref a ∧ H a = some (dnO a o kvs) ∧ ks.map nkT = kvs.map (fun q => some q.1) ∧ IsL K H ks (kvs.map fun q => .ref q.2.1) ∧ IsL K H ds (kvs.map fun q => q.2.2)
  | .ins c ds, v => ∃ a dx vs, v = .ref a ∧ H a = some (.ins (clsA K c) dx ((clsT c).fields.zip vs)) ∧ vs.length ≤ (clsT c).fields.length ∧ IsL K H ds vs
  | .lck ns, v => ∃ a, v = .ref a ∧ SqL K H a (ns.map V.int)
  | .cl c, v => v = .ref (clsA K c)
  | .xv, v => ∃ a, v = .ref a
def IsL (K : PySem.W.Frag) (H : Hp) : List D → List V → Prop
  | [], vs => vs = []
  | d :: ds, vs => ∃ v r, vs = v :: r ∧ Is K H d v ∧ IsL K H ds r
end
variable {K : PySem.W.Frag} {F G H F' G' H' : Hp}
theorem Is.str {x : Str} (h : PyData.strOk x = true) : Is K H (.str x) (.str x) := by
  simp only [Is]
  exact ⟨trivial, h⟩
mutual
theorem Is.mono (s : Same H H') : ∀ {d : D} {v : V}, Is K H d v → Is K H' d v
  | .non, _, h => h
  | .bl _, _, h => h
  | .int _, _, h => h
  | .str _, _, h => h
  | .tup ds, _, h => by
    simp only [Is] at h ⊢
    obtain ⟨a, vs, e, h1, h2⟩ := h
    exact ⟨a, vs, e, h1.mono s, IsL.mono s h2⟩
  | .dct ks ds, _, h => by
    simp only [Is] at h ⊢
    obtain ⟨a, o, kvs, e, h1, h2, h3, h4⟩ := h
    exact ⟨a, o, kvs, e, s _ _ h1, h2, IsL.mono s h3, IsL.mono s h4⟩
  | .lst ds, _, h => by
    simp only [Is] at h ⊢
    obtain ⟨a, vs, e, h1, h2⟩ := h
    exact ⟨a, vs, e, s _ _ h1, IsL.mono s h2⟩
  | .dic ks ds, _, h => by
    simp only [Is] at h ⊢
    obtain ⟨a, kvs, e, h1, h2, h3⟩ := h
    exact ⟨a, kvs, e, s _ _ h1, h2, IsL.mono s h3⟩
  | .ins c ds, _, h => by
    simp only [Is] at h ⊢
    obtain ⟨a, dx, vs, e, h1, h2, h3⟩ := h
    exact ⟨a, dx, vs, e, s _ _ h1, h2, IsL.mono s h3⟩
  | .cl _, _, h => h
  | .xv, _, h => h
  | .lck ns, _, h => by
    simp only [Is] at h ⊢
    obtain ⟨a, e, h1⟩ := h
    exact ⟨a, e, s.seq h1⟩
theorem IsL.mono (s : Same H H') : ∀ {ds : List D} {vs : List V}, IsL K H ds vs → IsL K H' ds vs
  | [], _, h => h
  | d :: ds, _, h => by
    simp only [IsL] at h ⊢
    obtain ⟨v, r, e, h1, h2⟩ := h
    exact ⟨v, r, e, Is.mono s h1, IsL.mono s h2⟩
end
theorem IsL.length : ∀ {ds : List D} {vs : List V}, IsL K H ds vs → vs.length = ds.length
  | [], _, h => by simp only [IsL] at h; rw [h]; rfl
  | d :: ds, _, h => by
    simp only [IsL] at h
    obtain ⟨v, r, rfl, _, h2⟩ := h
    rw [List.length_cons, List.length_cons, IsL.length h2]
theorem IsL.get : ∀ {ds : List D} {vs : List V} {i : Nat} {d : D}, IsL K H ds vs → ds[i]? = some d → ∃ v, vs[i]? = some v ∧ Is K H d v
  | [], _, _, _, _, e => by simp at e
  | d :: ds, _, 0, _, h, e => by
    simp only [IsL] at h
    obtain ⟨v, r, rfl, h1, _⟩ := h
    simp at e; subst e
    exact ⟨v, rfl, h1⟩
  | d :: ds, _, i + 1, _, h, e => by
    simp only [IsL] at h
    obtain ⟨v, r, rfl, _, h2⟩ := h
    obtain ⟨w, hw, h3⟩ := IsL.get (i := i) h2 (by simpa using e)
    exact ⟨w, by simpa using hw, h3⟩
theorem IsL.append : ∀ {ds es : List D} {vs ws : List V}, IsL K H ds vs → IsL K H es ws → IsL K H (ds ++ es) (vs ++ ws)
  | [], _, _, _, h, h2 => by simp only [IsL] at h; subst h; exact h2
  | d :: ds, _, _, _, h, h2 => by
    simp only [IsL] at h
    obtain ⟨v, r, rfl, h3, h4⟩ := h
    exact ⟨v, _, rfl, h3, IsL.append h4 h2⟩
theorem IsL.take : ∀ (n : Nat) {ds : List D} {vs : List V}, IsL K H ds vs → IsL K H (ds.take n) (vs.take n)
  | 0, _, _, _ => by simp [IsL]
  | n + 1, [], _, h => by simp only [IsL] at h; subst h; simp [IsL]
  | n + 1, d :: ds, _, h => by
    simp only [IsL] at h
    obtain ⟨v, r, rfl, h3, h4⟩ := h
    exact ⟨v, _, rfl, h3, IsL.take n h4⟩
theorem IsL.drop : ∀ (n : Nat) {ds : List D} {vs : List V}, IsL K H ds vs → IsL K H (ds.drop n) (vs.drop n)
  | 0, _, _, h => h
  | n + 1, [], _, h => by simp only [IsL] at h; subst h; simp [IsL]
  | n + 1, d :: ds, _, h => by
    simp only [IsL] at h
    obtain ⟨v, r, rfl, h3, h4⟩ := h
    exact IsL.drop n h4
theorem IsL.set : ∀ (i : Nat) {ds : List D} {vs : List V} {d : D} {v : V}, IsL K H ds vs → Is K H d v → IsL K H (ds.set i d) (vs.set i v)
  | _, [], _, _, _, h, _ => by simp only [IsL] at h; subst h; simp [IsL]
  | 0, e :: ds, _, d, v, h, h1 => by
    simp only [IsL] at h
    obtain ⟨w, r, rfl, _, h4⟩ := h
    exact ⟨v, r, rfl, h1, h4⟩
  | i + 1, e :: ds, _, d, v, h, h1 => by
    simp only [IsL] at h
    obtain ⟨w, r, rfl, h3, h4⟩ := h
    exact ⟨w, _, rfl, h3, IsL.set i h4 h1⟩
inductive OT where
  | fz | bw | lst (o : OT) | dic | ins (os : List OT) | lsh (os : List OT) | dct
mutual
def OT.beq : OT → OT → Bool
  | .fz, .fz => true
  | .bw, .bw => true
  | .dic, .dic => true
  | .dct, .dct => true
  | .lst a, .lst b => OT.beq a b
  | .ins a, .ins b => OT.beqL a b
  | .lsh a, .lsh b => OT.beqL a b
  | _, _ => false
def OT.beqL : List OT → List OT → Bool
  | [], [] => true
  | a :: as, b :: bs => OT.beq a b && OT.beqL as bs
  | _, _ => false
end
mutual
theorem OT.beq_eq : ∀ {a b : OT}, OT.beq a b = true → a = b
  | .fz, b, h => by cases b <;> simp [OT.beq] at h ⊢
  | .bw, b, h => by cases b <;> simp [OT.beq] at h ⊢
  | .dic, b, h => by cases b <;> simp [OT.beq] at h ⊢
  | .dct, b, h => by cases b <;> simp [OT.beq] at h ⊢
  | .lst a, b, h => by
    cases b with
    | lst b => rw [OT.beq_eq (a := a) (b := b) (by simpa [OT.beq] using h)]
    | _ => simp [OT.beq] at h
  | .ins a, b, h => by
    cases b with
    | ins b => rw [OT.beqL_eq (a := a) (b := b) (by simpa [OT.beq] using h)]
    | _ => simp [OT.beq] at h
  | .lsh a, b, h => by
    cases b with
    | lsh b => rw [OT.beqL_eq (a := a) (b := b) (by simpa [OT.beq] using h)]
    | _ => simp [OT.beq] at h
theorem OT.beqL_eq : ∀ {a b : List OT}, OT.beqL a b = true → a = b
  | [], b, h => by cases b <;> simp [OT.beqL] at h ⊢
  | a :: as, b, h => by
    cases b with
    | nil => simp [OT.beqL] at h
    | cons b bs =>
      simp only [OT.beqL, Bool.and_eq_true] at h
      rw [OT.beq_eq h.1, OT.beqL_eq h.2]
end
/-- seen by its items alone (bw): a list or a dict whose items are frozen, or frozen itself -/
def Bw (K : PySem.W.Frag) (F H : Hp) (d : D) (v : V) (A : List Addr) : Prop :=
  (A = [] ∧ Is K F d v) ∨ (∃ ds a vs, d = .lst ds ∧ v = .ref a ∧ H a = some (.lst vs) ∧ IsL K F ds vs ∧ A = [a]) ∨
    (∃ ks ds a kvs, d = .dic ks ds ∧ v = .ref a ∧ H a = some (.dK kvs) ∧ kvs.map (·.1) = ks ∧ IsL K F ds (kvs.map (·.2)) ∧ A = [a]) ∨
    (∃ ks ds a o kvs, d = .dct ks ds ∧ v = .ref a ∧ H a = some (dnO a o kvs) ∧ ks.map nkT = kvs.map (fun q => some q.1) ∧ IsL K F ks (kvs.map fun q => .ref q.2.1) ∧ IsL K F ds (kvs.map fun q => q.2.2) ∧ A = [a])
theorem Bw.frame {d : D} {v : V} {A : List Addr} (s : Same F F') (h : Bw K F H d v A) (k : ∀ a ∈ A, H' a = H a) : Bw K F' H' d v A := by
  rcases h with ⟨e, h⟩ | ⟨ds, a, vs, e1, e2, h1, h2, rfl⟩ | ⟨ks, ds, a, kvs, e1, e2, h1, h2, h3, rfl⟩ | ⟨ks, ds, a, o, kvs, e1, e2, h1, h2, h3, h4, rfl⟩
  · exact .inl ⟨e, h.mono s⟩
  · exact .inr (.inl ⟨ds, a, vs, e1, e2, (k a (by simp)).trans h1, h2.mono s, rfl⟩)
  · exact .inr (.inr (.inl ⟨ks, ds, a, kvs, e1, e2, (k a (by simp)).trans h1, h2, h3.mono s, rfl⟩))
  · exact .inr (.inr (.inr ⟨ks, ds, a, o, kvs, e1, e2, (k a (by simp)).trans h1, h2, h3.mono s, h4.mono s, rfl⟩))
theorem Bw.there {d : D} {v : V} {A : List Addr} (h : Bw K F H d v A) : ∀ a ∈ A, H a ≠ none := by
  intro b hb
  rcases h with ⟨e, h⟩ | ⟨ds, a, vs, e1, e2, h1, h2, rfl⟩ | ⟨ks, ds, a, kvs, e1, e2, h1, h2, h3, rfl⟩ | ⟨ks, ds, a, o, kvs, e1, e2, h1, h2, h3, h4, rfl⟩
  · rw [e] at hb; cases hb
  rotate_left 2
  · rcases List.mem_cons.mp hb with rfl | hb
    · rw [h1]; simp
    · cases hb
  · rcases List.mem_cons.mp hb with rfl | hb
    · rw [h1]; simp
    · cases hb
  · rcases List.mem_cons.mp hb with rfl | hb
    · rw [h1]; simp
    · cases hb
theorem Bw.freeze {d : D} {v : V} {A : List Addr} (s : Same F F') (h : Bw K F H d v A) (k : ∀ a ∈ A, F' a = H a) : Is K F' d v := by
  rcases h with ⟨e, h⟩ | ⟨ds, a, vs, rfl, e2, h1, h2, rfl⟩ | ⟨ks, ds, a, kvs, rfl, e2, h1, h2, h3, rfl⟩ | ⟨ks, ds, a, o, kvs, rfl, e2, h1, h2, h3, h4, rfl⟩
  · exact h.mono s
  rotate_left 2
  · simp only [Is]
    exact ⟨a, o, kvs, e2, (k a (by simp)).trans h1, h2, h3.mono s, h4.mono s⟩
  · simp only [Is]
    exact ⟨a, vs, e2, (k a (by simp)).trans h1, h2.mono s⟩
  · simp only [Is]
    exact ⟨a, kvs, e2, (k a (by simp)).trans h1, h2, h3.mono s⟩
mutual
/-- d stands at v, changeable as o says; the changeable objects stand in H at A, the rest is d's by F -/
def Own (K : PySem.W.Frag) (F H : Hp) : OT → D → V → List Addr → Prop
  | .fz, d, v, A => A = [] ∧ Is K F d v
  | .bw, d, v, A => Bw K F H d v A
  | .lst o, .lst ds, v, A => ∃ a vs B, v = .ref a ∧ H a = some (.lst vs) ∧ OwnL K F H o ds vs B ∧ A = a :: B
  | .dct, .dct ks ds, v, A => ∃ a o kvs, v = .ref a ∧ H a = some (dnO a o kvs) ∧ ks.map nkT = kvs.map (fun q => some q.1) ∧ IsL K F ks (kvs.map fun q => .ref q.2.1) ∧ IsL K F ds (kvs.map fun q => q.2.2) ∧ A = [a]
  | .dic, .dic ks ds, v, A => ∃ a kvs, v = .ref a ∧ H a = some (.dK kvs) ∧ kvs.map (·.1) = ks ∧ IsL K F ds (kvs.map (·.2)) ∧ A = [a]
  | .ins os, .ins c ds, v, A => ∃ a dx vs B, v = .ref a ∧ H a = some (.ins (clsA K c) dx ((clsT c).fields.zip vs)) ∧ vs.length ≤ (clsT c).fields.length ∧ OwnS K F H os ds vs B ∧ A = a :: B
  | .lsh os, .lst ds, v, A => ∃ a vs B, v = .ref a ∧ H a = some (.lst vs) ∧ OwnS K F H os ds vs B ∧ A = a :: B
  | _, _, _, _ => False
def OwnL (K : PySem.W.Frag) (F H : Hp) : OT → List D → List V → List Addr → Prop
  | _, [], vs, A => vs = [] ∧ A = []
  | o, d :: ds, vs, A => ∃ v r A1 A2, vs = v :: r ∧ Own K F H o d v A1 ∧ OwnL K F H o ds r A2 ∧ A = A1 ++ A2
def OwnS (K : PySem.W.Frag) (F H : Hp) : List OT → List D → List V → List Addr → Prop
  | _, [], vs, A => vs = [] ∧ A = []
  | o :: os, d :: ds, vs, A => ∃ v r A1 A2, vs = v :: r ∧ Own K F H o d v A1 ∧ OwnS K F H os ds r A2 ∧ A = A1 ++ A2
  | _, _, _, _ => False
end
mutual
/-- F may grow, the objects at A are kept -/
theorem Own.frame (s : Same F F') : ∀ {o : OT} {d : D} {v : V} {A : List Addr}, Own K F H o d v A → (∀ a ∈ A, H' a = H a) → Own K F' H' o d v A
  | .fz, d, v, A, h, _ => by
    simp only [Own] at h ⊢
    exact ⟨h.1, h.2.mono s⟩
  | .bw, d, v, A, h, k => by
    simp only [Own] at h ⊢
    exact h.frame s k
  | .lst o, .lst ds, v, A, h, k => by
    simp only [Own] at h ⊢
    obtain ⟨a, vs, B, e, h1, h2, rfl⟩ := h
    exact ⟨a, vs, B, e, (k a (by simp)).trans h1, OwnL.frame s h2 fun b hb => k b (by simp [hb]), rfl⟩
  | .dic, .dic ks ds, v, A, h, k => by
    simp only [Own] at h ⊢
    obtain ⟨a, kvs, e, h1, h2, h3, rfl⟩ := h
    exact ⟨a, kvs, e, (k a (by simp)).trans h1, h2, h3.mono s, rfl⟩
  | .dct, .dct ks ds, v, A, h, k => by
    simp only [Own] at h ⊢
    obtain ⟨a, o, kvs, e, h1, h2, h3, h4, rfl⟩ := h
    exact ⟨a, o, kvs, e, (k a (by simp)).trans h1, h2, h3.mono s, h4.mono s, rfl⟩
  | .ins os, .ins c ds, v, A, h, k => by
    simp only [Own] at h ⊢
    obtain ⟨a, dx, vs, B, e, h1, h2, h3, rfl⟩ := h
    exact ⟨a, dx, vs, B, e, (k a (by simp)).trans h1, h2, OwnS.frame s h3 fun b hb => k b (by simp [hb]), rfl⟩
  | .lsh os, .lst ds, v, A, h, k => by
    simp only [Own] at h ⊢
    obtain ⟨a, vs, B, e, h1, h3, rfl⟩ := h
    exact ⟨a, vs, B, e, (k a (by simp)).trans h1, OwnS.frame s h3 fun b hb => k b (by simp [hb]), rfl⟩
  | .lst _, .non, _, _, h, _ => by simp [Own] at h
  | .lst _, .bl _, _, _, h, _ => by simp [Own] at h
  | .lst _, .int _, _, _, h, _ => by simp [Own] at h
  | .lst _, .str _, _, _, h, _ => by simp [Own] at h
  | .lst _, .tup _, _, _, h, _ => by simp [Own] at h
  | .lst _, .dic _ _, _, _, h, _ => by simp [Own] at h
  | .lst _, .ins _ _, _, _, h, _ => by simp [Own] at h
  | .lst _, .lck _, _, _, h, _ => by simp [Own] at h
  | .lst _, .cl _, _, _, h, _ => by simp [Own] at h
  | .lst _, .xv, _, _, h, _ => by simp [Own] at h
  | .lst _, .dct _ _, _, _, h, _ => by simp [Own] at h
  | .dic, .non, _, _, h, _ => by simp [Own] at h
  | .dic, .bl _, _, _, h, _ => by simp [Own] at h
  | .dic, .int _, _, _, h, _ => by simp [Own] at h
  | .dic, .str _, _, _, h, _ => by simp [Own] at h
  | .dic, .tup _, _, _, h, _ => by simp [Own] at h
  | .dic, .lst _, _, _, h, _ => by simp [Own] at h
  | .dic, .ins _ _, _, _, h, _ => by simp [Own] at h
  | .dic, .lck _, _, _, h, _ => by simp [Own] at h
  | .dic, .cl _, _, _, h, _ => by simp [Own] at h
  | .dic, .xv, _, _, h, _ => by simp [Own] at h
  | .dic, .dct _ _, _, _, h, _ => by simp [Own] at h
  | .ins _, .non, _, _, h, _ => by simp [Own] at h
  | .ins _, .bl _, _, _, h, _ => by simp [Own] at h
  | .ins _, .int _, _, _, h, _ => by simp [Own] at h
  | .ins _, .str _, _, _, h, _ => by simp [Own] at h
  | .ins _, .tup _, _, _, h, _ => by simp [Own] at h
  | .ins _, .lst _, _, _, h, _ => by simp [Own] at h
  | .ins _, .dic _ _, _, _, h, _ => by simp [Own] at h
  | .ins _, .lck _, _, _, h, _ => by simp [Own] at h
  | .ins _, .cl _, _, _, h, _ => by simp [Own] at h
  | .ins _, .xv, _, _, h, _ => by simp [Own] at h
  | .ins _, .dct _ _, _, _, h, _ => by simp [Own] at h
  | .lsh _, .non, _, _, h, _ => by simp [Own] at h
  | .lsh _, .bl _, _, _, h, _ => by simp [Own] at h
  | .lsh _, .int _, _, _, h, _ => by simp [Own] at h
  | .lsh _, .str _, _, _, h, _ => by simp [Own] at h
  | .lsh _, .tup _, _, _, h, _ => by simp [Own] at h
  | .lsh _, .dic _ _, _, _, h, _ => by simp [Own] at h
  | .lsh _, .ins _ _, _, _, h, _ => by simp [Own] at h
  | .lsh _, .lck _, _, _, h, _ => by simp [Own] at h
  | .lsh _, .cl _, _, _, h, _ => by simp [Own] at h
  | .lsh _, .xv, _, _, h, _ => by simp [Own] at h
  | .lsh _, .dct _ _, _, _, h, _ => by simp [Own] at h
  | .dct, .non, _, _, h, _ => by simp [Own] at h
  | .dct, .bl _, _, _, h, _ => by simp [Own] at h
  | .dct, .int _, _, _, h, _ => by simp [Own] at h
  | .dct, .str _, _, _, h, _ => by simp [Own] at h
  | .dct, .tup _, _, _, h, _ => by simp [Own] at h
  | .dct, .lst _, _, _, h, _ => by simp [Own] at h
  | .dct, .dic _ _, _, _, h, _ => by simp [Own] at h
  | .dct, .ins _ _, _, _, h, _ => by simp [Own] at h
  | .dct, .lck _, _, _, h, _ => by simp [Own] at h
  | .dct, .cl _, _, _, h, _ => by simp [Own] at h
  | .dct, .xv, _, _, h, _ => by simp [Own] at h
theorem OwnL.frame (s : Same F F') : ∀ {o : OT} {ds : List D} {vs : List V} {A : List Addr}, OwnL K F H o ds vs A → (∀ a ∈ A, H' a = H a) → OwnL K F' H' o ds vs A
  | _, [], _, _, h, _ => by simpa only [OwnL] using h
  | o, d :: ds, _, _, h, k => by
    simp only [OwnL] at h ⊢
    obtain ⟨v, r, A1, A2, e, h1, h2, rfl⟩ := h
    exact ⟨v, r, A1, A2, e, Own.frame s h1 fun b hb => k b (by simp [hb]), OwnL.frame s h2 fun b hb => k b (by simp [hb]), rfl⟩
theorem OwnS.frame (s : Same F F') : ∀ {os : List OT} {ds : List D} {vs : List V} {A : List Addr}, OwnS K F H os ds vs A → (∀ a ∈ A, H' a = H a) → OwnS K F' H' os ds vs A
  | _, [], _, _, h, _ => by simpa only [OwnS] using h
  | o :: os, d :: ds, _, _, h, k => by
    simp only [OwnS] at h ⊢
    obtain ⟨v, r, A1, A2, e, h1, h2, rfl⟩ := h
    exact ⟨v, r, A1, A2, e, Own.frame s h1 fun b hb => k b (by simp [hb]), OwnS.frame s h2 fun b hb => k b (by simp [hb]), rfl⟩
  | [], _ :: _, _, _, h, _ => by simp [OwnS] at h
end
end Ev

set_option maxHeartbeats 4000000
namespace Ev
open PySem PySem.Spec PyProof.Rows L2
variable [Wd]
variable {K : PySem.W.Frag} {F G H F' G' H' F0 : Hp}
mutual
theorem Own.there : ∀ {o : OT} {d : D} {v : V} {A : List Addr}, Own K F H o d v A → ∀ a ∈ A, H a ≠ none
  | .fz, d, v, A, h, a, ha => by
    simp only [Own] at h
    rw [h.1] at ha; cases ha
  | .bw, d, v, A, h, a, ha => by
    simp only [Own] at h
    exact h.there a ha
  | .lst o, .lst ds, v, A, h, b, hb => by
    simp only [Own] at h
    obtain ⟨a, vs, B, e, h1, h2, rfl⟩ := h
    rcases List.mem_cons.mp hb with rfl | hb
    · rw [h1]; simp
    · exact OwnL.there h2 b hb
  | .dic, .dic ks ds, v, A, h, b, hb => by
    simp only [Own] at h
    obtain ⟨a, kvs, e, h1, h2, h3, rfl⟩ := h
    rcases List.mem_cons.mp hb with rfl | hb
    · rw [h1]; simp
    · cases hb
  | .dct, .dct ks ds, v, A, h, b, hb => by
    simp only [Own] at h
    obtain ⟨a, o, kvs, e, h1, h2, h3, h4, rfl⟩ := h
    rcases List.mem_cons.mp hb with rfl | hb
    · rw [h1]; simp
    · cases hb
  | .ins os, .ins c ds, v, A, h, b, hb => by
    simp only [Own] at h
    obtain ⟨a, dx, vs, B, e, h1, h2, h3, rfl⟩ := h
    rcases List.mem_cons.mp hb with rfl | hb
    · rw [h1]; simp
    · exact OwnS.there h3 b hb
  | .lsh os, .lst ds, v, A, h, b, hb => by
    simp only [Own] at h
    obtain ⟨a, vs, B, e, h1, h3, rfl⟩ := h
    rcases List.mem_cons.mp hb with rfl | hb
    · rw [h1]; simp
    · exact OwnS.there h3 b hb
  | .lst _, .non, _, _, h, _, _ => by simp [Own] at h
  | .lst _, .bl _, _, _, h, _, _ => by simp [Own] at h
  | .lst _, .int _, _, _, h, _, _ => by simp [Own] at h
  | .lst _, .str _, _, _, h, _, _ => by simp [Own] at h
  | .lst _, .tup _, _, _, h, _, _ => by simp [Own] at h
  | .lst _, .dic _ _, _, _, h, _, _ => by simp [Own] at h
  | .lst _, .ins _ _, _, _, h, _, _ => by simp [Own] at h
  | .lst _, .lck _, _, _, h, _, _ => by simp [Own] at h
  | .lst _, .cl _, _, _, h, _, _ => by simp [Own] at h
  | .lst _, .xv, _, _, h, _, _ => by simp [Own] at h
  | .lst _, .dct _ _, _, _, h, _, _ => by simp [Own] at h
  | .dic, .non, _, _, h, _, _ => by simp [Own] at h
  | .dic, .bl _, _, _, h, _, _ => by simp [Own] at h
  | .dic, .int _, _, _, h, _, _ => by simp [Own] at h
  | .dic, .str _, _, _, h, _, _ => by simp [Own] at h
  | .dic, .tup _, _, _, h, _, _ => by simp [Own] at h
  | .dic, .lst _, _, _, h, _, _ => by simp [Own] at h
  | .dic, .ins _ _, _, _, h, _, _ => by simp [Own] at h
  | .dic, .lck _, _, _, h, _, _ => by simp [Own] at h
  | .dic, .cl _, _, _, h, _, _ => by simp [Own] at h
  | .dic, .xv, _, _, h, _, _ => by simp [Own] at h
  | .dic, .dct _ _, _, _, h, _, _ => by simp [Own] at h
  | .ins _, .non, _, _, h, _, _ => by simp [Own] at h
  | .ins _, .bl _, _, _, h, _, _ => by simp [Own] at h
  | .ins _, .int _, _, _, h, _, _ => by simp [Own] at h
  | .ins _, .str _, _, _, h, _, _ => by simp [Own] at h
  | .ins _, .tup _, _, _, h, _, _ => by simp [Own] at h
  | .ins _, .lst _, _, _, h, _, _ => by simp [Own] at h
  | .ins _, .dic _ _, _, _, h, _, _ => by simp [Own] at h
  | .ins _, .lck _, _, _, h, _, _ => by simp [Own] at h
  | .ins _, .cl _, _, _, h, _, _ => by simp [Own] at h
  | .ins _, .xv, _, _, h, _, _ => by simp [Own] at h
  | .ins _, .dct _ _, _, _, h, _, _ => by simp [Own] at h
  | .lsh _, .non, _, _, h, _, _ => by simp [Own] at h
  | .lsh _, .bl _, _, _, h, _, _ => by simp [Own] at h
  | .lsh _, .int _, _, _, h, _, _ => by simp [Own] at h
  | .lsh _, .str _, _, _, h, _, _ => by simp [Own] at h
  | .lsh _, .tup _, _, _, h, _, _ => by simp [Own] at h
  | .lsh _, .dic _ _, _, _, h, _, _ => by simp [Own] at h
  | .lsh _, .ins _ _, _, _, h, _, _ => by simp [Own] at h
  | .lsh _, .lck _, _, _, h, _, _ => by simp [Own] at h
  | .lsh _, .cl _, _, _, h, _, _ => by simp [Own] at h
  | .lsh _, .xv, _, _, h, _, _ => by simp [Own] at h
  | .lsh _, .dct _ _, _, _, h, _, _ => by simp [Own] at h
  | .dct, .non, _, _, h, _, _ => by simp [Own] at h
  | .dct, .bl _, _, _, h, _, _ => by simp [Own] at h
  | .dct, .int _, _, _, h, _, _ => by simp [Own] at h
  | .dct, .str _, _, _, h, _, _ => by simp [Own] at h
  | .dct, .tup _, _, _, h, _, _ => by simp [Own] at h
  | .dct, .lst _, _, _, h, _, _ => by simp [Own] at h
  | .dct, .dic _ _, _, _, h, _, _ => by simp [Own] at h
  | .dct, .ins _ _, _, _, h, _, _ => by simp [Own] at h
  | .dct, .lck _, _, _, h, _, _ => by simp [Own] at h
  | .dct, .cl _, _, _, h, _, _ => by simp [Own] at h
  | .dct, .xv, _, _, h, _, _ => by simp [Own] at h
theorem OwnL.there : ∀ {o : OT} {ds : List D} {vs : List V} {A : List Addr}, OwnL K F H o ds vs A → ∀ a ∈ A, H a ≠ none
  | _, [], _, _, h, a, ha => by
    simp only [OwnL] at h
    rw [h.2] at ha; cases ha
  | o, d :: ds, _, _, h, a, ha => by
    simp only [OwnL] at h
    obtain ⟨v, r, A1, A2, e, h1, h2, rfl⟩ := h
    rcases List.mem_append.mp ha with ha | ha
    · exact Own.there h1 a ha
    · exact OwnL.there h2 a ha
theorem OwnS.there : ∀ {os : List OT} {ds : List D} {vs : List V} {A : List Addr}, OwnS K F H os ds vs A → ∀ a ∈ A, H a ≠ none
  | _, [], _, _, h, a, ha => by
    simp only [OwnS] at h
    rw [h.2] at ha; cases ha
  | o :: os, d :: ds, _, _, h, a, ha => by
    simp only [OwnS] at h
    obtain ⟨v, r, A1, A2, e, h1, h2, rfl⟩ := h
    rcases List.mem_append.mp ha with ha | ha
    · exact Own.there h1 a ha
    · exact OwnS.there h2 a ha
  | [], _ :: _, _, _, h, _, _ => by simp [OwnS] at h
end
mutual
/-- what is owned may be frozen -/
theorem Own.freeze (s : Same F F') : ∀ {o : OT} {d : D} {v : V} {A : List Addr}, Own K F H o d v A → (∀ a ∈ A, F' a = H a) → Is K F' d v
  | .fz, d, v, A, h, _ => by
    simp only [Own] at h
    exact h.2.mono s
  | .bw, d, v, A, h, k => by
    simp only [Own] at h
    exact h.freeze s k
  | .lst o, .lst ds, v, A, h, k => by
    simp only [Own] at h
    obtain ⟨a, vs, B, e, h1, h2, rfl⟩ := h
    simp only [Is]
    exact ⟨a, vs, e, (k a (by simp)).trans h1, OwnL.freeze s h2 fun b hb => k b (by simp [hb])⟩
  | .dic, .dic ks ds, v, A, h, k => by
    simp only [Own] at h
    obtain ⟨a, kvs, e, h1, h2, h3, rfl⟩ := h
    simp only [Is]
    exact ⟨a, kvs, e, (k a (by simp)).trans h1, h2, h3.mono s⟩
  | .dct, .dct ks ds, v, A, h, k => by
    simp only [Own] at h
    obtain ⟨a, o, kvs, e, h1, h2, h3, h4, rfl⟩ := h
    simp only [Is]
    exact ⟨a, o, kvs, e, (k a (by simp)).trans h1, h2, h3.mono s, h4.mono s⟩
  | .ins os, .ins c ds, v, A, h, k => by
    simp only [Own] at h
    obtain ⟨a, dx, vs, B, e, h1, h2, h3, rfl⟩ := h
    simp only [Is]
    exact ⟨a, dx, vs, e, (k a (by simp)).trans h1, h2, OwnS.freeze s h3 fun b hb => k b (by simp [hb])⟩
  | .lsh os, .lst ds, v, A, h, k => by
    simp only [Own] at h
    obtain ⟨a, vs, B, e, h1, h3, rfl⟩ := h
    simp only [Is]
    exact ⟨a, vs, e, (k a (by simp)).trans h1, OwnS.freeze s h3 fun b hb => k b (by simp [hb])⟩
  | .lst _, .non, _, _, h, _ => by simp [Own] at h
  | .lst _, .bl _, _, _, h, _ => by simp [Own] at h
  | .lst _, .int _, _, _, h, _ => by simp [Own] at h
  | .lst _, .str _, _, _, h, _ => by simp [Own] at h
  | .lst _, .tup _, _, _, h, _ => by simp [Own] at h
  | .lst _, .dic _ _, _, _, h, _ => by simp [Own] at h
  | .lst _, .ins _ _, _, _, h, _ => by simp [Own] at h
  | .lst _, .lck _, _, _, h, _ => by simp [Own] at h
  | .lst _, .cl _, _, _, h, _ => by simp [Own] at h
  | .lst _, .xv, _, _, h, _ => by simp [Own] at h
  | .lst _, .dct _ _, _, _, h, _ => by simp [Own] at h
  | .dic, .non, _, _, h, _ => by simp [Own] at h
  | .dic, .bl _, _, _, h, _ => by simp [Own] at h
  | .dic, .int _, _, _, h, _ => by simp [Own] at h
  | .dic, .str _, _, _, h, _ => by simp [Own] at h
  | .dic, .tup _, _, _, h, _ => by simp [Own] at h
  | .dic, .lst _, _, _, h, _ => by simp [Own] at h
  | .dic, .ins _ _, _, _, h, _ => by simp [Own] at h
  | .dic, .lck _, _, _, h, _ => by simp [Own] at h
  | .dic, .cl _, _, _, h, _ => by simp [Own] at h
  | .dic, .xv, _, _, h, _ => by simp [Own] at h
  | .dic, .dct _ _, _, _, h, _ => by simp [Own] at h
  | .ins _, .non, _, _, h, _ => by simp [Own] at h
  | .ins _, .bl _, _, _, h, _ => by simp [Own] at h
  | .ins _, .int _, _, _, h, _ => by simp [Own] at h
  | .ins _, .str _, _, _, h, _ => by simp [Own] at h
  | .ins _, .tup _, _, _, h, _ => by simp [Own] at h
  | .ins _, .lst _, _, _, h, _ => by simp [Own] at h
  | .ins _, .dic _ _, _, _, h, _ => by simp [Own] at h
  | .ins _, .lck _, _, _, h, _ => by simp [Own] at h
  | .ins _, .cl _, _, _, h, _ => by simp [Own] at h
  | .ins _, .xv, _, _, h, _ => by simp [Own] at h
  | .ins _, .dct _ _, _, _, h, _ => by simp [Own] at h
  | .lsh _, .non, _, _, h, _ => by simp [Own] at h
  | .lsh _, .bl _, _, _, h, _ => by simp [Own] at h
  | .lsh _, .int _, _, _, h, _ => by simp [Own] at h
  | .lsh _, .str _, _, _, h, _ => by simp [Own] at h
  | .lsh _, .tup _, _, _, h, _ => by simp [Own] at h
  | .lsh _, .dic _ _, _, _, h, _ => by simp [Own] at h
  | .lsh _, .ins _ _, _, _, h, _ => by simp [Own] at h
  | .lsh _, .lck _, _, _, h, _ => by simp [Own] at h
  | .lsh _, .cl _, _, _, h, _ => by simp [Own] at h
  | .lsh _, .xv, _, _, h, _ => by simp [Own] at h
  | .lsh _, .dct _ _, _, _, h, _ => by simp [Own] at h
  | .dct, .non, _, _, h, _ => by simp [Own] at h
  | .dct, .bl _, _, _, h, _ => by simp [Own] at h
  | .dct, .int _, _, _, h, _ => by simp [Own] at h
  | .dct, .str _, _, _, h, _ => by simp [Own] at h
  | .dct, .tup _, _, _, h, _ => by simp [Own] at h
  | .dct, .lst _, _, _, h, _ => by simp [Own] at h
  | .dct, .dic _ _, _, _, h, _ => by simp [Own] at h
  | .dct, .ins _ _, _, _, h, _ => by simp [Own] at h
  | .dct, .lck _, _, _, h, _ => by simp [Own] at h
  | .dct, .cl _, _, _, h, _ => by simp [Own] at h
  | .dct, .xv, _, _, h, _ => by simp [Own] at h
theorem OwnL.freeze (s : Same F F') : ∀ {o : OT} {ds : List D} {vs : List V} {A : List Addr}, OwnL K F H o ds vs A → (∀ a ∈ A, F' a = H a) → IsL K F' ds vs
  | _, [], _, _, h, _ => by
    simp only [OwnL] at h
    rw [h.1]; rfl
  | o, d :: ds, _, _, h, k => by
    simp only [OwnL] at h
    obtain ⟨v, r, A1, A2, rfl, h1, h2, rfl⟩ := h
    exact ⟨v, r, rfl, Own.freeze s h1 fun b hb => k b (by simp [hb]), OwnL.freeze s h2 fun b hb => k b (by simp [hb])⟩
theorem OwnS.freeze (s : Same F F') : ∀ {os : List OT} {ds : List D} {vs : List V} {A : List Addr}, OwnS K F H os ds vs A → (∀ a ∈ A, F' a = H a) → IsL K F' ds vs
  | _, [], _, _, h, _ => by
    simp only [OwnS] at h
    rw [h.1]; rfl
  | o :: os, d :: ds, _, _, h, k => by
    simp only [OwnS] at h
    obtain ⟨v, r, A1, A2, rfl, h1, h2, rfl⟩ := h
    exact ⟨v, r, rfl, Own.freeze s h1 fun b hb => k b (by simp [hb]), OwnS.freeze s h2 fun b hb => k b (by simp [hb])⟩
  | [], _ :: _, _, _, h, _ => by simp [OwnS] at h
end
/-- seen now -/
theorem Own.see {o : OT} {d : D} {v : V} {A : List Addr} (h : Own K F H o d v A) (s : Same F H) : Is K H d v := h.freeze s fun _ _ => rfl
theorem Own.of_is {d : D} {v : V} (h : Is K F d v) : Own K F H .fz d v [] := by simp only [Own]; exact ⟨trivial, h⟩
theorem Own.is {d : D} {v : V} {A : List Addr} (h : Own K F H .fz d v A) : Is K F d v := by simp only [Own] at h; exact h.2

structure Up (F H F' H' : Hp) : Prop where
  ff : Same F F'
  hh : Same H H'
  fr : ∀ a, F a = none → H a ≠ none → F' a = none
  fh : Same F' H'
theorem Same.some {H H' : Hp} (s : Same H H') {a : Addr} (h : H a ≠ none) : H' a ≠ none := by
  cases e : H a with
  | none => exact absurd e h
  | some o => rw [s a o e]; simp
theorem Same.eq {H H' : Hp} (s : Same H H') {a : Addr} (h : H a ≠ none) : H' a = H a := by
  cases e : H a with
  | none => exact absurd e h
  | some o => exact s a o e
theorem Up.refl (h : Same F H) : Up F H F H := ⟨Same.refl _, Same.refl _, fun _ e _ => e, h⟩
theorem Up.trans {F1 H1 F2 H2 : Hp} (a : Up F H F1 H1) (b : Up F1 H1 F2 H2) : Up F H F2 H2 :=
  ⟨a.ff.trans b.ff, a.hh.trans b.hh, fun x e h => b.fr x (a.fr x e h) (Same.some a.hh h), b.fh⟩
theorem Own.up {o : OT} {d : D} {v : V} {A : List Addr} (h : Own K F H o d v A) (u : Up F H F' H') : Own K F' H' o d v A :=
  h.frame u.ff fun a ha => Same.eq u.hh (h.there a ha)
theorem Is.up {d : D} {v : V} (h : Is K F d v) (u : Up F H F' H') : Is K F' d v := h.mono u.ff
/-- a new object, tracked; not frozen -/
theorem Up.new (s : Same F H) {p : Addr} {o : HO} (hp : H p = none) : Up F H F (upd H p o) :=
  ⟨Same.refl _, fun b o e => by rw [upd_ne (ne_of_none e hp)]; exact e, fun _ e _ => e, fun b o e => by rw [upd_ne (ne_of_none (s _ _ e) hp)]; exact s _ _ e⟩
/-- .. frozen at once -/
theorem Up.newF (s : Same F H) {p : Addr} {o : HO} (hp : H p = none) : Up F H (upd F p o) (upd H p o) := by
  have fp : F p = none := by
    cases e : F p with
    | none => rfl
    | some u => rw [s _ _ e] at hp; cases hp
  refine ⟨fun b u e => ?_, fun b u e => ?_, fun a e h => ?_, fun b u e => ?_⟩
  · rw [upd_ne (ne_of_none e fp)]; exact e
  · rw [upd_ne (ne_of_none e hp)]; exact e
  · have : a ≠ p := fun z => h (z ▸ hp)
    rw [upd_ne this]; exact e
  · by_cases hb : b = p
    · subst hb; rw [upd_same] at e ⊢; exact e
    · rw [upd_ne hb] at e ⊢; exact s _ _ e
/-- to freeze at A -/
noncomputable def frz (F H : Hp) (A : List Addr) : Hp := by
  classical
  exact fun a => if a ∈ A then H a else F a
theorem frz_in {A : List Addr} {a : Addr} (h : a ∈ A) : frz F H A a = H a := by
  classical
  unfold frz; rw [if_pos h]
theorem frz_out {A : List Addr} {a : Addr} (h : a ∉ A) : frz F H A a = F a := by
  classical
  unfold frz; rw [if_neg h]
theorem frz_ff (s : Same F H) {A : List Addr} : Same F (frz F H A) := fun b u e => by
  by_cases hb : b ∈ A
  · rw [frz_in hb]; exact s _ _ e
  · rw [frz_out hb]; exact e
theorem frz_fh (s : Same F H) {A : List Addr} : Same (frz F H A) H := fun b u e => by
  by_cases hb : b ∈ A
  · rw [frz_in hb] at e; exact e
  · rw [frz_out hb] at e; exact s _ _ e
/-- what was made since (F1, H1) is frozen -/
theorem Up.freeze {F1 H1 : Hp} (u : Up F1 H1 F H) {A : List Addr} (n : ∀ a ∈ A, H1 a = none) : Up F1 H1 (frz F H A) H :=
  ⟨u.ff.trans (frz_ff u.fh), u.hh, fun a e h => by
    rw [frz_out fun ha => h (n a ha)]; exact u.fr a e h, frz_fh u.fh⟩

def getI : HO → Option (List V)
  | .lst vs => some vs
  | .ins _ _ fs => some (fs.map (·.2))
  | _ => none
/-- the way p leads from v to w -/
def At (H : Hp) : List Nat → V → V → Prop
  | [], v, w => v = w
  | k :: p, v, w => ∃ a o vs u, v = .ref a ∧ H a = some o ∧ getI o = some vs ∧ vs[k]? = some u ∧ At H p u w
theorem At.mono (s : Same H H') : ∀ {p : List Nat} {v w : V}, At H p v w → At H' p v w
  | [], _, _, h => h
  | k :: p, _, _, ⟨a, o, vs, u, e, h1, h2, h3, h4⟩ => ⟨a, o, vs, u, e, s _ _ h1, h2, h3, At.mono s h4⟩
theorem At.fn : ∀ {p : List Nat} {v w u : V}, At H p v w → At H p v u → w = u
  | [], _, _, _, h, h' => h.symm.trans h'
  | k :: p, _, _, _, ⟨a, o, vs, u, e, h1, h2, h3, h4⟩, ⟨a', o', vs', u', e', h1', h2', h3', h4'⟩ => by
    rw [e] at e'; cases e'
    rw [h1] at h1'; cases h1'
    rw [h2] at h2'; cases h2'
    rw [h3] at h3'; cases h3'
    exact At.fn h4 h4'
/-- the type at a place -/
def OT.own : OT → Bool
  | .fz => false
  | .bw => false
  | _ => true
def otP : OT → List Nat → Option OT
  | o, [] => if o.own then some o else none
  | .lst o, _ :: p => otP o p
  | .lsh os, k :: p => match os[k]? with
    | some o => otP o p
    | none => none
  | .ins os, k :: p => match os[k]? with
    | some o => otP o p
    | none => none
  | _, _ :: _ => none
def kids : D → Option (List D)
  | .lst ds => some ds
  | .ins _ ds => some ds
  | _ => none
def withK : D → List D → D
  | .lst _, ds => .lst ds
  | .ins c _, ds => .ins c ds
  | d, _ => d
def getP : List Nat → D → Option D
  | [], d => some d
  | k :: p, d => match kids d with
    | some ds => (match ds[k]? with
      | some e => getP p e
      | none => none)
    | none => none
def setP : List Nat → D → D → D
  | [], x, _ => x
  | k :: p, x, d => match kids d with
    | some ds => (match ds[k]? with
      | some e => withK d (ds.set k (setP p x e))
      | none => d)
    | none => d
theorem OwnL.toS : ∀ {o : OT} {ds : List D} {vs : List V} {A : List Addr} {n : Nat}, OwnL K F H o ds vs A → ds.length ≤ n → OwnS K F H (List.replicate n o) ds vs A
  | _, [], _, _, n, h, _ => by
    simp only [OwnL] at h
    cases n <;> simp [OwnS, List.replicate, h]
  | o, d :: ds, _, _, 0, h, hn => by simp at hn
  | o, d :: ds, _, _, n + 1, h, hn => by
    simp only [OwnL] at h
    obtain ⟨v, r, A1, A2, e, h1, h2, rfl⟩ := h
    simp only [List.replicate, OwnS]
    exact ⟨v, r, A1, A2, e, h1, OwnL.toS h2 (by simpa using hn), rfl⟩
theorem OwnS.toL : ∀ {o : OT} {ds : List D} {vs : List V} {A : List Addr} {n : Nat}, OwnS K F H (List.replicate n o) ds vs A → OwnL K F H o ds vs A
  | _, [], _, _, n, h => by
    cases n <;> simpa [OwnL, OwnS, List.replicate] using h
  | o, d :: ds, _, _, 0, h => by simp [OwnS] at h
  | o, d :: ds, _, _, n + 1, h => by
    simp only [List.replicate, OwnS] at h
    obtain ⟨v, r, A1, A2, e, h1, h2, rfl⟩ := h
    simp only [OwnL]
    exact ⟨v, r, A1, A2, e, h1, OwnS.toL h2, rfl⟩
theorem OwnS.len : ∀ {os : List OT} {ds : List D} {vs : List V} {A : List Addr}, OwnS K F H os ds vs A → vs.length = ds.length
  | os, [], _, _, h => by cases os <;> (simp only [OwnS] at h; rw [h.1]; rfl)
  | o :: os, d :: ds, _, _, h => by
    simp only [OwnS] at h
    obtain ⟨v, r, A1, A2, rfl, h1, h2, rfl⟩ := h
    rw [List.length_cons, List.length_cons, OwnS.len h2]
  | [], _ :: _, _, _, h => by simp [OwnS] at h
/-- one child, taken out and put back; the others stand apart -/
theorem OwnS.kid : ∀ {os : List OT} {ds : List D} {vs : List V} {B : List Addr} {j : Nat} {d : D}, OwnS K F H os ds vs B → B.Nodup → ds[j]? = some d →
    ∃ o v Aj, os[j]? = some o ∧ vs[j]? = some v ∧ Own K F H o d v Aj ∧ (∀ a ∈ Aj, a ∈ B) ∧ Aj.Nodup ∧
      (∀ k d', k ≠ j → ds[k]? = some d' → ∃ o' v' Ak, os[k]? = some o' ∧ vs[k]? = some v' ∧ Own K F H o' d' v' Ak ∧ Ak.Nodup ∧ (∀ a ∈ Ak, a ∈ B ∧ a ∉ Aj)) ∧
      ∀ {F' H' : Hp} {d' : D} {v' : V} {Aj' : List Addr}, Same F F' → (∀ a ∈ B, a ∉ Aj → H' a = H a) → Own K F' H' o d' v' Aj' → Aj'.Nodup → (∀ a ∈ Aj', a ∈ Aj ∨ a ∉ B) →
      ∃ B', OwnS K F' H' os (ds.set j d') (vs.set j v') B' ∧ B'.Nodup ∧ ∀ a ∈ B', (a ∈ B ∧ a ∉ Aj) ∨ a ∈ Aj'
  | os, [], vs, B, j, d, h, nd, e2 => by simp at e2
  | [], d1 :: ds, vs, B, j, d, h, nd, e2 => by simp [OwnS] at h
  | o1 :: os, d1 :: ds, vs, B, 0, d, h, nd, e2 => by
    cases e2
    simp only [OwnS] at h
    obtain ⟨v, r, A1, A2, rfl, h1, h2, rfl⟩ := h
    obtain ⟨n1, n2, dj⟩ := List.nodup_append.mp nd
    refine ⟨o1, v, A1, rfl, rfl, h1, fun a ha => List.mem_append_left _ ha, n1, fun k d' nk ek => ?_, fun {F' H' d' v' Aj'} sF k o' nj inj => ?_⟩
    · cases k with
      | zero => exact absurd rfl nk
      | succ k =>
        have ek : ds[k]? = some d' := by simpa using ek
        obtain ⟨o', v', Ak, e1, e2, h3, sub, nk3, _⟩ := OwnS.kid h2 n2 ek
        exact ⟨o', v', Ak, by simpa using e1, by simpa using e2, h3, nk3, fun a ha => ⟨List.mem_append_right _ (sub a ha), fun hb => dj a hb a (sub a ha) rfl⟩⟩
    · refine ⟨Aj' ++ A2, ?_, List.nodup_append.mpr ⟨nj, n2, fun a ha b hb e => ?_⟩, fun a ha => ?_⟩
      · simp only [List.set_cons_zero, OwnS]
        exact ⟨v', r, Aj', A2, rfl, o', OwnS.frame sF h2 fun b hb => k b (List.mem_append_right _ hb) fun hb' => dj b hb' b hb rfl, rfl⟩
      · subst e
        rcases inj a ha with z | z
        · exact dj a z a hb rfl
        · exact z (List.mem_append_right _ hb)
      · rcases List.mem_append.mp ha with z | z
        · exact .inr z
        · exact .inl ⟨List.mem_append_right _ z, fun hb => dj a hb a z rfl⟩
  | o1 :: os, d1 :: ds, vs, B, j + 1, d, h, nd, e2 => by
    simp only [OwnS] at h
    obtain ⟨v, r, A1, A2, rfl, h1, h2, rfl⟩ := h
    obtain ⟨n1, n2, dj⟩ := List.nodup_append.mp nd
    obtain ⟨o, w, Aj, e0, e3, h3, sub, nj, oth, put⟩ := OwnS.kid (j := j) h2 n2 (by simpa using e2)
    refine ⟨o, w, Aj, by simpa using e0, by simpa using e3, h3, fun a ha => List.mem_append_right _ (sub a ha), nj, fun k d' nk ek => ?_, fun {F' H' d' v' Aj'} sF k o' nj' inj => ?_⟩
    · cases k with
      | zero =>
        cases ek
        exact ⟨o1, v, A1, rfl, rfl, h1, n1, fun a ha => ⟨List.mem_append_left _ ha, fun hb => dj a ha a (sub a hb) rfl⟩⟩
      | succ k =>
        obtain ⟨o', v', Ak, e1, e2, h3, nk3, sub'⟩ := oth k d' (fun q => nk (by rw [q])) (by simpa using ek)
        exact ⟨o', v', Ak, by simpa using e1, by simpa using e2, h3, nk3, fun a ha => ⟨List.mem_append_right _ (sub' a ha).1, (sub' a ha).2⟩⟩
    · obtain ⟨B', h4, nb, ib⟩ := put sF (fun a ha na => k a (List.mem_append_right _ ha) na) o' nj' fun a ha => (inj a ha).imp id fun q z => q (List.mem_append_right _ z)
      refine ⟨A1 ++ B', ?_, List.nodup_append.mpr ⟨n1, nb, fun a ha b hb e => ?_⟩, fun a ha => ?_⟩
      · simp only [List.set_cons_succ, OwnS]
        exact ⟨v, _, A1, B', rfl, Own.frame sF h1 fun b hb => k b (List.mem_append_left _ hb) fun hb' => dj b hb b (sub b hb') rfl, h4, rfl⟩
      · subst e
        rcases ib a hb with z | z
        · exact dj a ha a z.1 rfl
        · rcases inj a z with y | y
          · exact dj a ha a (sub a y) rfl
          · exact y (List.mem_append_left _ ha)
      · rcases List.mem_append.mp ha with z | z
        · exact .inl ⟨List.mem_append_left _ z, fun hb => dj a z a (sub a hb) rfl⟩
        · rcases ib a z with y | y
          · exact .inl ⟨List.mem_append_right _ y.1, y.2⟩
          · exact .inr y
/-- an owned thing with children: its object, its children (as types, data, values) -/
theorem Own.kidsOf {o : OT} {d : D} {v : V} {A : List Addr} {k : Nat} {p : List Nat} {o' : OT} (h : Own K F H o d v A) (t : otP o (k :: p) = some o') : ∃ a ho vs os ds B, v = .ref a ∧ H a = some ho ∧ getI ho = some vs ∧ kids d = some ds ∧ OwnS K F H os ds vs B ∧ A = a :: B ∧
    (∀ o1, os[k]? = some o1 → otP o1 p = some o') ∧ (∀ k' p', (∃ o2, otP o (k' :: p') = some o2) → ∀ o1, os[k']? = some o1 → ∃ o2, otP o1 p' = some o2) ∧ ∀ {F' H' : Hp} {ds' : List D} {B' : List Addr}, ds'.length = ds.length → H' a = some ho → OwnS K F' H' os ds' vs B' → Own K F' H' o (withK d ds') v (a :: B') := by
  cases o with
  | fz => simp [otP] at t
  | bw => simp [otP] at t
  | dic => simp [otP] at t
  | dct => simp [otP] at t
  | lst o1 =>
    cases d with
    | lst ds =>
      simp only [Own] at h
      obtain ⟨a, vs, B, e, h1, h2, rfl⟩ := h
      refine ⟨a, _, vs, List.replicate ds.length o1, ds, B, e, h1, rfl, rfl, h2.toS (Nat.le_refl _), rfl, fun o2 e2 => ?_, fun k' p' t' o2 e2 => ?_, fun {F' H' ds' B'} hl ha hS => ?_⟩
      · rw [List.getElem?_replicate] at e2
        split at e2
        · cases e2; simpa [otP] using t
        · cases e2
      · rw [List.getElem?_replicate] at e2
        split at e2
        · cases e2; simpa [otP] using t'
        · cases e2
      · simp only [withK, Own]
        exact ⟨a, vs, B', e, ha, hS.toL, rfl⟩
    | _ => simp [Own] at h
  | lsh os =>
    cases d with
    | lst ds =>
      simp only [Own] at h
      obtain ⟨a, vs, B, e, h1, h2, rfl⟩ := h
      refine ⟨a, _, vs, os, ds, B, e, h1, rfl, rfl, h2, rfl, fun o2 e2 => ?_, fun k' p' t' o2 e2 => ?_, fun {F' H' ds' B'} hl ha hS => ?_⟩
      · simpa [otP, e2] using t
      · simpa [otP, e2] using t'
      · simp only [withK, Own]
        exact ⟨a, vs, B', e, ha, hS, rfl⟩
    | _ => simp [Own] at h
  | ins os =>
    cases d with
    | ins ci ds =>
      simp only [Own] at h
      obtain ⟨a, dx, vs, B, e, h1, hl, h2, rfl⟩ := h
      refine ⟨a, _, vs, os, ds, B, e, h1, ?_, rfl, h2, rfl, fun o2 e2 => ?_, fun k' p' t' o2 e2 => ?_, fun {F' H' ds' B'} hl' ha hS => ?_⟩
      · simp only [getI, Option.some.injEq]
        exact List.map_snd_zip hl
      · simpa [otP, e2] using t
      · simpa [otP, e2] using t'
      · simp only [withK, Own]
        exact ⟨a, dx, vs, B', e, ha, hl, hS, rfl⟩
    | _ => simp [Own] at h
theorem At.frame : ∀ {p : List Nat} {o : OT} {d : D} {v w : V} {A : List Addr}, Own K F H o d v A → A.Nodup → (∃ o', otP o p = some o') → (∀ b ∈ A, H' b = H b) → At H p v w → At H' p v w
  | [], _, _, _, _, _, _, _, _, _, h => h
  | k :: p, o, d, v, w, A, ow, nd, ⟨o', t⟩, hk, ⟨a, ho, vs, u, e, h1, h2, h3, h4⟩ => by
    obtain ⟨a', ho', vs', os, ds, B, e', h1', h2', hd, hS, rfl, tk, _, _⟩ := ow.kidsOf t
    rw [e] at e'; cases e'
    rw [h1] at h1'; cases h1'
    rw [h2] at h2'; cases h2'
    obtain ⟨naB, nB⟩ := List.nodup_cons.mp nd
    have hlt : k < ds.length := by rw [← hS.len]; exact (List.getElem?_eq_some_iff.mp h3).1
    obtain ⟨o1, v1, Aj, eo, ev, ow1, sub, nj, _⟩ := hS.kid nB (List.getElem?_eq_getElem hlt)
    rw [h3] at ev; cases ev
    exact ⟨a, ho, vs, u, e, (hk a List.mem_cons_self).trans h1, h2, h3, At.frame ow1 nj ⟨o', tk _ eo⟩ (fun b hb => hk b (List.mem_cons_of_mem _ (sub b hb))) h4⟩
/-- what stands at a place, taken out and put back -/
theorem Own.sub : ∀ (p : List Nat) {o : OT} {d : D} {v : V} {A : List Addr} {o' : OT} {d' : D}, Own K F H o d v A → A.Nodup → otP o p = some o' → getP p d = some d' →
    ∃ w B, At H p v w ∧ Own K F H o' d' w B ∧ B.Nodup ∧ (∀ b ∈ B, b ∈ A) ∧ ∀ {F' H' : Hp} {d'' : D} {B' : List Addr}, Same F F' → (∀ b ∈ A, b ∉ B → H' b = H b) → Own K F' H' o' d'' w B' → B'.Nodup → (∀ b ∈ B', b ∈ B ∨ b ∉ A) →
      ∃ A', Own K F' H' o (setP p d'' d) v A' ∧ A'.Nodup ∧ (∀ b ∈ A', (b ∈ A ∧ b ∉ B) ∨ b ∈ B') ∧ (∀ q u, (∃ o2, otP o q = some o2) → ¬ p <+: q → At H q v u → At H' q v u) ∧ ∀ q u, At H' q w u → At H' (p ++ q) v u
  | [], o, d, v, A, o', d', h, nd, t, g => by
    cases g
    obtain rfl : o = o' := by
      simp only [otP] at t
      split at t
      · exact Option.some.inj t
      · cases t
    refine ⟨v, A, rfl, h, nd, fun b hb => hb, fun {F' H' d'' B'} sF hk h' nd' inA => ⟨B', h', nd', fun b hb => .inr hb, fun q u _ np => absurd (List.nil_prefix) np, fun q u ha => ha⟩⟩
  | k :: p, o, d, v, A, o', d', h, nd, t, g => by
    obtain ⟨a, ho, vs, os, ds, B0, e, h1, h2, hd, hS, rfl, tk, tk', back⟩ := h.kidsOf t
    simp only [getP, hd] at g
    cases eg : ds[k]? with
    | none => rw [eg] at g; cases g
    | some e1 =>
      rw [eg] at g
      have g : getP p e1 = some d' := g
      obtain ⟨naB, nB⟩ := List.nodup_cons.mp nd
      obtain ⟨o1, v1, Aj, eo, ev, ow1, sub, nj, oth, put⟩ := hS.kid nB eg
      obtain ⟨w, B, at1, ow2, nb, subB, put2⟩ := Own.sub p ow1 nj (tk _ eo) g
      refine ⟨w, B, ⟨a, ho, vs, v1, e, h1, h2, ev, at1⟩, ow2, nb, fun b hb => List.mem_cons_of_mem _ (sub b (subB b hb)), fun {F' H' d'' B'} sF hk h' nd' inA => ?_⟩
      have naw : a ∉ B := fun q => naB (sub a (subB a q))
      obtain ⟨Aj', ow3, nj', ij, al1, al2⟩ := put2 sF (fun b hb nb' => hk b (List.mem_cons_of_mem _ (sub b hb)) nb') h' nd' fun b hb => (inA b hb).imp id fun q z => q (List.mem_cons_of_mem _ (sub b z))
      have ha' : H' a = some ho := (hk a List.mem_cons_self naw).trans h1
      obtain ⟨B0', hS', nB', iB⟩ := put sF (fun b hb nb' => hk b (List.mem_cons_of_mem _ hb) fun q => nb' (subB b q)) ow3 nj' fun b hb => by
        rcases ij b hb with z | z
        · exact .inl z.1
        · rcases inA b z with y | y
          · exact .inl (subB b y)
          · exact .inr fun q => y (List.mem_cons_of_mem _ q)
      have hvs : vs.set k v1 = vs := by
        apply List.ext_getElem?
        intro i
        by_cases hi : k = i
        · subst hi; rw [List.getElem?_set_self (List.getElem?_eq_some_iff.mp ev).1, ev]
        · rw [List.getElem?_set_ne hi]
      rw [hvs] at hS'
      refine ⟨a :: B0', ?_, List.nodup_cons.mpr ⟨fun q => ?_, nB'⟩, fun b hb => ?_, fun q u tq np hq => ?_, fun q u hq => ?_⟩
      · simp only [setP, hd, eg]
        exact back (by rw [List.length_set]) ha' hS'
      · rcases iB a q with z | z
        · exact naB z.1
        · rcases ij a z with y | y
          · exact naB (sub a y.1)
          · rcases inA a y with x | x
            · exact naw x
            · exact x List.mem_cons_self
      · rcases List.mem_cons.mp hb with q | q
        · exact .inl ⟨by rw [q]; exact List.mem_cons_self, by rw [q]; exact naw⟩
        · rcases iB b q with z | z
          · exact .inl ⟨List.mem_cons_of_mem _ z.1, fun y => z.2 (subB b y)⟩
          · rcases ij b z with y | y
            · exact .inl ⟨List.mem_cons_of_mem _ (sub b y.1), y.2⟩
            · exact .inr y
      · cases q with
        | nil => exact hq
        | cons k' q =>
          obtain ⟨a2, ho2, vs2, u2, e2, x1, x2, x3, x4⟩ := hq
          rw [e] at e2; cases e2
          rw [h1] at x1; cases x1
          rw [h2] at x2; cases x2
          refine ⟨a, ho, vs, u2, e, ha', h2, x3, ?_⟩
          by_cases ek : k' = k
          · subst ek
            rw [ev] at x3; cases x3
            exact al1 q u (tk' _ _ tq _ eo) (fun z => np (by simpa using z)) x4
          · have hlt : k' < ds.length := by rw [← hS.len]; exact (List.getElem?_eq_some_iff.mp x3).1
            obtain ⟨o2, v2, Ak, eo2, ev2, owk, nk, subk⟩ := oth k' _ ek (List.getElem?_eq_getElem hlt)
            rw [x3] at ev2; cases ev2
            exact At.frame owk nk (tk' _ _ tq _ eo2) (fun b hb => hk b (List.mem_cons_of_mem _ (subk b hb).1) fun z => (subk b hb).2 (subB b z)) x4
      · exact ⟨a, ho, vs, v1, e, ha', h2, ev, al2 q u hq⟩
/-- ar, pr: owned as ow, pn, and others may lead into it; al i: leads to a place in slot i (its datum: the way) -/
inductive Kd where
  | ve (o : OT) | ow (o : OT) | pn (o : OT) (v : V) | rd (o : OT) (v : V) | ar (o : OT) | pr (o : OT) (v : V) | al (i : Nat) (o : OT)
def Kd.ot : Kd → OT
  | .ve o => o
  | .ow o => o
  | .pn o _ => o
  | .rd o _ => o
  | .ar o => o
  | .pr o _ => o
  | .al _ _ => .fz
def Kd.isAl : Kd → Bool
  | .al _ _ => true
  | _ => false
def Kd.ra : Kd → Bool
  | .al _ _ => true
  | .ar _ => true
  | .pr _ _ => true
  | _ => false
/-- a slot: k its kind, d its datum -/
def SlotOk (K : PySem.W.Frag) (F G H : Hp) (k : Kd) (d : D) (v : V) (A : List Addr) : Prop := match k with
  | .ve o => ∃ B, Own K F G o d v B
  | .ow o => Own K F H o d v A
  | .pn o v0 => v = v0 ∧ Own K F H o d v A
  | .rd o v0 => v = v0 ∧ ∃ B, Own K F G o d v B
  | .ar o => Own K F H o d v A
  | .pr o v0 => v = v0 ∧ Own K F H o d v A
  | .al _ _ => True
def RootK (Ks : List Kd) (i : Nat) (o : OT) : Prop := Ks[i]? = some (.ar o) ∨ ∃ v, Ks[i]? = some (.pr o v)
def pathD (ns : List Int) : List Nat := ns.map Int.toNat
/-- what leads into a root leads there -/
def AlOk (Ks : List Kd) (H : Hp) (σ : L2.St) (δ : List (Option D)) : Prop := ∀ (j i : Nat) (o' : OT) (ns : List Int), Ks[j]? = some (.al i o') → δ[j]? = some (some (.lck ns)) → ∃ o, RootK Ks i o ∧ otP o (pathD ns) = some o' ∧ ∀ d : D, δ[i]? = some (some d) →
  ∃ r v, σ[i]? = some (some r) ∧ σ[j]? = some (some v) ∧ At H (pathD ns) r v
def NoRA (Ks : List Kd) (k : Nat) : Prop := (∀ i o, Ks[k]? ≠ some (.al i o)) ∧ ∀ o, ¬ RootK Ks k o
theorem noRA {Ks : List Kd} {k : Nat} {kd : Kd} (h : Ks[k]? = some kd) (e : kd.ra = false) : NoRA Ks k := by
  refine ⟨fun i o' q => ?_, fun o q => ?_⟩
  · rw [h] at q; cases q; cases e
  · rcases q with q | ⟨v, q⟩ <;> (rw [h] at q; cases q; cases e)
structure EnvOk (K : PySem.W.Frag) (Ks : List Kd) (F0 G F H : Hp) (σ : L2.St) (δ : List (Option D)) : Prop where
  ls : σ.length = Ks.length
  ld : δ.length = Ks.length
  gh : Same G H
  f0 : Same F0 F
  fh : Same F H
  fr : ∀ a, F0 a = none → G a ≠ none → F a = none
  al : AlOk Ks H σ δ
  sl : ∃ As : Nat → List Addr, (∀ i k d, Ks[i]? = some k → δ[i]? = some (some d) → ∃ v, σ[i]? = some (some v) ∧ SlotOk K F G H k d v (As i)) ∧ (∀ i, (As i).Nodup) ∧
    (∀ i j a, a ∈ As i → a ∈ As j → i = j) ∧ ∀ i a, a ∈ As i → F a = none ∧ G a = none ∧ H a ≠ none
variable {Ks : List Kd} {σ : L2.St} {δ : List (Option D)}
theorem AlOk.mono {H1 : Hp} (al : AlOk Ks H σ δ) (s : Same H H1) : AlOk Ks H1 σ δ := fun j i o' ns e1 e2 => by
  obtain ⟨o, x1, x2, y⟩ := al j i o' ns e1 e2
  refine ⟨o, x1, x2, fun d e3 => ?_⟩
  obtain ⟨r, v, x3, x4, x5⟩ := y d e3
  exact ⟨r, v, x3, x4, x5.mono s⟩
theorem AlOk.keep {H1 : Hp} {As : Nat → List Addr} (al : AlOk Ks H σ δ) (h1 : ∀ i k d, Ks[i]? = some k → δ[i]? = some (some d) → ∃ v, σ[i]? = some (some v) ∧ SlotOk K F G H k d v (As i)) (h2 : ∀ i, (As i).Nodup)
    (hk : ∀ i o, RootK Ks i o → ∀ b ∈ As i, H1 b = H b) : AlOk Ks H1 σ δ := fun j i o' ns e1 e2 => by
  obtain ⟨o, x1, x2, y⟩ := al j i o' ns e1 e2
  refine ⟨o, x1, x2, fun d e3 => ?_⟩
  obtain ⟨r, v, x3, x4, x5⟩ := y d e3
  refine ⟨r, v, x3, x4, ?_⟩
  have hk' := hk i o x1
  rcases x1 with q | ⟨v0, q⟩
  · obtain ⟨v', e4, s⟩ := h1 i _ d q e3
    rw [x3] at e4; cases e4
    exact At.frame (show Own K F H o d r (As i) from s) (h2 i) ⟨o', x2⟩ hk' x5
  · obtain ⟨v', e4, s⟩ := h1 i _ d q e3
    rw [x3] at e4; cases e4
    exact At.frame (show Own K F H o d r (As i) from s.2) (h2 i) ⟨o', x2⟩ hk' x5
theorem getElem?_set_or {α : Type} {l : List α} {i j : Nat} {x y : α} (h : (l.set i x)[j]? = some y) : (j = i ∧ y = x) ∨ (j ≠ i ∧ l[j]? = some y) := by
  by_cases e : j = i
  · subst e
    by_cases hl : j < l.length
    · rw [List.getElem?_set_self hl] at h
      exact .inl ⟨rfl, (Option.some.inj h).symm⟩
    · rw [List.getElem?_eq_none (by rw [List.length_set]; omega)] at h; cases h
  · rw [List.getElem?_set_ne (Ne.symm e)] at h
    exact .inr ⟨e, h⟩
theorem AlOk.setB (al : AlOk Ks H σ δ) {k : Nat} (n : NoRA Ks k) (x : Option V) (y : Option D) : AlOk Ks H (σ.set k x) (δ.set k y) := fun j i o' ns e1 e2 => by
  have nj : j ≠ k := fun q => n.1 i o' (q ▸ e1)
  rw [List.getElem?_set_ne (Ne.symm nj)] at e2
  obtain ⟨o, x1, x2, z⟩ := al j i o' ns e1 e2
  have ni : i ≠ k := fun q => n.2 o (q ▸ x1)
  refine ⟨o, x1, x2, fun d e3 => ?_⟩
  rw [List.getElem?_set_ne (Ne.symm ni)] at e3
  obtain ⟨r, v, x3, x4, x5⟩ := z d e3
  exact ⟨r, v, by rw [List.getElem?_set_ne (Ne.symm ni)]; exact x3, by rw [List.getElem?_set_ne (Ne.symm nj)]; exact x4, x5⟩
theorem AlOk.setD (al : AlOk Ks H σ δ) {k : Nat} (n : NoRA Ks k) (y : Option D) : AlOk Ks H σ (δ.set k y) := fun j i o' ns e1 e2 => by
  have nj : j ≠ k := fun q => n.1 i o' (q ▸ e1)
  rw [List.getElem?_set_ne (Ne.symm nj)] at e2
  obtain ⟨o, x1, x2, z⟩ := al j i o' ns e1 e2
  have ni : i ≠ k := fun q => n.2 o (q ▸ x1)
  refine ⟨o, x1, x2, fun d e3 => ?_⟩
  rw [List.getElem?_set_ne (Ne.symm ni)] at e3
  exact z d e3
theorem AlOk.unset (al : AlOk Ks H σ δ) (k : Nat) : AlOk Ks H σ (δ.set k none) := fun j i o' ns e1 e2 => by
  rcases getElem?_set_or e2 with ⟨rfl, e3⟩ | ⟨ne, e3⟩
  · cases e3
  · obtain ⟨o, x1, x2, z⟩ := al j i o' ns e1 e3
    refine ⟨o, x1, x2, fun d e4 => ?_⟩
    rcases getElem?_set_or e4 with ⟨rfl, e5⟩ | ⟨ne', e5⟩
    · cases e5
    · exact z d e5
theorem AlOk.unsetS (al : AlOk Ks H σ δ) (k : Nat) (x : Option V) : AlOk Ks H (σ.set k x) (δ.set k none) := fun j i o' ns e1 e2 => by
  rcases getElem?_set_or e2 with ⟨rfl, e3⟩ | ⟨ne, e3⟩
  · cases e3
  · obtain ⟨o, x1, x2, z⟩ := al j i o' ns e1 e3
    refine ⟨o, x1, x2, fun d e4 => ?_⟩
    rcases getElem?_set_or e4 with ⟨rfl, e5⟩ | ⟨ne', e5⟩
    · cases e5
    · obtain ⟨r, v, x3, x4, x5⟩ := z d e5
      exact ⟨r, v, by rw [List.getElem?_set_ne (Ne.symm ne')]; exact x3, by rw [List.getElem?_set_ne (Ne.symm ne)]; exact x4, x5⟩
/-- other kinds at one slot, no way leading from it or into it -/
theorem AlOk.kind (al : AlOk Ks H σ δ) {k : Nat} (n : NoRA Ks k) {kd : Kd} (hkd : kd.ra = false) : AlOk (Ks.set k kd) H σ δ := fun j i o' ns e1 e2 => by
  have nj : j ≠ k := fun q => by
    subst q
    rcases getElem?_set_or e1 with ⟨_, e3⟩ | ⟨ne, _⟩
    · subst e3; cases hkd
    · exact ne rfl
  rw [List.getElem?_set_ne (Ne.symm nj)] at e1
  obtain ⟨o, x1, x2, z⟩ := al j i o' ns e1 e2
  have ni : i ≠ k := fun q => n.2 o (q ▸ x1)
  exact ⟨o, by unfold RootK; rw [List.getElem?_set_ne (Ne.symm ni)]; exact x1, x2, z⟩
/-- .. back again, the slot without a datum -/
theorem AlOk.kindBack {k : Nat} {kd : Kd} (al : AlOk (Ks.set k kd) H σ δ) (hkd : kd.ra = false) : AlOk Ks H σ (δ.set k none) := fun j i o' ns e1 e2 => by
  rcases getElem?_set_or e2 with ⟨rfl, e3⟩ | ⟨nj, e3⟩
  · cases e3
  · obtain ⟨o, x1, x2, z⟩ := al j i o' ns (by rw [List.getElem?_set_ne (Ne.symm nj)]; exact e1) e3
    have ni : i ≠ k := fun q => by
      subst q
      rcases x1 with x1 | ⟨v, x1⟩ <;>
      · rcases getElem?_set_or x1 with ⟨_, e5⟩ | ⟨ne, _⟩
        · subst e5; cases hkd
        · exact ne rfl
    refine ⟨o, by unfold RootK at x1 ⊢; rw [List.getElem?_set_ne (Ne.symm ni)] at x1; exact x1, x2, fun d e4 => ?_⟩
    rw [List.getElem?_set_ne (Ne.symm ni)] at e4
    exact z d e4
theorem AlOk.unkind {k : Nat} {kd : Kd} (al : AlOk (Ks.set k kd) H σ δ) (hkd : kd.ra = false) (n : NoRA Ks k) (y : Option D) : AlOk Ks H σ (δ.set k y) := fun j i o' ns e1 e2 => by
  have nj : j ≠ k := fun q => n.1 i o' (q ▸ e1)
  rw [List.getElem?_set_ne (Ne.symm nj)] at e2
  obtain ⟨o, x1, x2, z⟩ := al j i o' ns (by rw [List.getElem?_set_ne (Ne.symm nj)]; exact e1) e2
  have ni : i ≠ k := fun q => by
    subst q
    rcases x1 with x1 | ⟨v, x1⟩ <;>
    · rcases getElem?_set_or x1 with ⟨_, e5⟩ | ⟨ne, _⟩
      · subst e5; cases hkd
      · exact ne rfl
  refine ⟨o, by unfold RootK at x1 ⊢; rw [List.getElem?_set_ne (Ne.symm ni)] at x1; exact x1, x2, fun d e4 => ?_⟩
  rw [List.getElem?_set_ne (Ne.symm ni)] at e4
  exact z d e4
theorem EnvOk.up (E : EnvOk K Ks F0 G F H σ δ) (u : Up F H F' H') : EnvOk K Ks F0 G F' H' σ δ := by
  obtain ⟨As, h1, h2, h3, h4⟩ := E.sl
  refine ⟨E.ls, E.ld, E.gh.trans u.hh, E.f0.trans u.ff, u.fh, fun a e h => u.fr a (E.fr a e h) (Same.some E.gh h), E.al.mono u.hh, As, fun i k d e1 e2 => ?_, h2, h3, fun i a ha => ?_⟩
  · obtain ⟨v, e3, s⟩ := h1 i k d e1 e2
    refine ⟨v, e3, ?_⟩
    cases k with
    | ve o =>
      obtain ⟨B, s⟩ := s
      exact ⟨B, s.frame u.ff fun _ _ => rfl⟩
    | rd o v0 =>
      obtain ⟨er, B, s⟩ := s
      exact ⟨er, B, s.frame u.ff fun _ _ => rfl⟩
    | ow o => exact Own.up (show Own K F H o d v (As i) from s) u
    | pn o v0 => exact ⟨s.1, Own.up (show Own K F H o d v (As i) from s.2) u⟩
    | ar o => exact Own.up (show Own K F H o d v (As i) from s) u
    | pr o v0 => exact ⟨s.1, Own.up (show Own K F H o d v (As i) from s.2) u⟩
    | al i o => trivial
  · obtain ⟨x1, x2, x3⟩ := h4 i a ha
    exact ⟨u.fr a x1 x3, x2, Same.some u.hh x3⟩
/-- a name is read -/
theorem EnvOk.var (E : EnvOk K Ks F0 G F H σ δ) {i : Nat} {k : Kd} {d : D} (hk : Ks[i]? = some k) (hd : δ[i]? = some (some d)) (hna : k.isAl = false := by rfl) : ∃ v, σ[i]? = some (some v) ∧ ∃ A, Own K F H k.ot d v A := by
  obtain ⟨As, h1, h2, h3, h4⟩ := E.sl
  obtain ⟨v, e, s⟩ := h1 i k d hk hd
  refine ⟨v, e, ?_⟩
  cases k with
  | ve o =>
    obtain ⟨B, s⟩ := s
    exact ⟨B, s.frame (Same.refl _) fun a ha => Same.eq E.gh (s.there a ha)⟩
  | rd o v0 =>
    obtain ⟨er, B, s⟩ := s
    exact ⟨B, s.frame (Same.refl _) fun a ha => Same.eq E.gh (s.there a ha)⟩
  | ow o => exact ⟨_, s⟩
  | pn o v0 => exact ⟨_, s.2⟩
  | ar o => exact ⟨_, s⟩
  | pr o v0 => exact ⟨_, s.2⟩
  | al i o => cases hna
/-- a name that is only read gets a value -/
theorem EnvOk.setVe (E : EnvOk K Ks F0 G F H σ δ) {i : Nat} {d : D} {v : V} (hk : Ks[i]? = some (.ve .fz)) (h : Is K F d v) : EnvOk K Ks F0 G F H (σ.set i (some v)) (δ.set i (some d)) := by
  obtain ⟨As, h1, h2, h3, h4⟩ := E.sl
  have hi : i < Ks.length := (List.getElem?_eq_some_iff.mp hk).1
  refine ⟨by rw [List.length_set]; exact E.ls, by rw [List.length_set]; exact E.ld, E.gh, E.f0, E.fh, E.fr, E.al.setB (noRA hk rfl) _ _, As, fun j k e e1 e2 => ?_, h2, h3, h4⟩
  rcases getElem?_set_or e2 with ⟨rfl, e3⟩ | ⟨ne, e3⟩
  · cases e3
    rw [hk] at e1; cases e1
    exact ⟨v, List.getElem?_set_self (by rw [E.ls]; exact hi), [], Own.of_is h⟩
  · obtain ⟨w, e4, s⟩ := h1 j k e e1 e3
    exact ⟨w, by rw [List.getElem?_set_ne (Ne.symm ne)]; exact e4, s⟩
/-- a name loses its value -/
theorem EnvOk.unset (E : EnvOk K Ks F0 G F H σ δ) (i : Nat) : EnvOk K Ks F0 G F H σ (δ.set i none) := by
  obtain ⟨As, h1, h2, h3, h4⟩ := E.sl
  refine ⟨E.ls, by rw [List.length_set]; exact E.ld, E.gh, E.f0, E.fh, E.fr, E.al.unset i, As, fun j k e e1 e2 => ?_, h2, h3, h4⟩
  rcases getElem?_set_or e2 with ⟨rfl, e3⟩ | ⟨ne, e3⟩
  · cases e3
  · exact h1 j k e e1 e3
/-- .. whatever stands in the slot -/
theorem EnvOk.unsetS (E : EnvOk K Ks F0 G F H σ δ) (i : Nat) (x : Option V) : EnvOk K Ks F0 G F H (σ.set i x) (δ.set i none) := by
  obtain ⟨As, h1, h2, h3, h4⟩ := E.sl
  refine ⟨by rw [List.length_set]; exact E.ls, by rw [List.length_set]; exact E.ld, E.gh, E.f0, E.fh, E.fr, E.al.unsetS i x, As, fun j k e e1 e2 => ?_, h2, h3, h4⟩
  rcases getElem?_set_or e2 with ⟨rfl, e3⟩ | ⟨ne, e3⟩
  · cases e3
  · obtain ⟨w, e4, s⟩ := h1 j k e e1 e3
    exact ⟨w, by rw [List.getElem?_set_ne (Ne.symm ne)]; exact e4, s⟩
/-- a name that may be changed gets a value made since (F1, H1) -/
theorem EnvOk.setOw {F1 H1 : Hp} (E1 : EnvOk K Ks F0 G F1 H1 σ δ) (u : Up F1 H1 F H) {i : Nat} {o : OT} {d : D} {v : V} {A : List Addr} (hk : Ks[i]? = some (.ow o)) (h : Own K F H o d v A) (hA : A.Nodup) (n : ∀ a ∈ A, H1 a = none ∧ F a = none) :
    EnvOk K Ks F0 G F H (σ.set i (some v)) (δ.set i (some d)) := by
  have E := E1.up u
  obtain ⟨As1, _, _, _, _⟩ := E1.sl
  obtain ⟨As, h1, h2, h3, h4⟩ := E1.sl
  have hi : i < Ks.length := (List.getElem?_eq_some_iff.mp hk).1
  refine ⟨by rw [List.length_set]; exact E.ls, by rw [List.length_set]; exact E.ld, E.gh, E.f0, E.fh, E.fr, E.al.setB (noRA hk rfl) _ _, fun j => if j = i then A else As j, fun j k e e1 e2 => ?_, fun j => ?_, fun j l a ha hb => ?_, fun j a ha => ?_⟩
  · rcases getElem?_set_or e2 with ⟨rfl, e3⟩ | ⟨ne, e3⟩
    · cases e3
      rw [hk] at e1; cases e1
      refine ⟨v, List.getElem?_set_self (by rw [E.ls]; exact hi), ?_⟩
      show Own K F H o d v (if j = j then A else As j)
      rw [if_pos rfl]; exact h
    · obtain ⟨w, e4, s⟩ := h1 j k e e1 e3
      refine ⟨w, by rw [List.getElem?_set_ne (Ne.symm ne)]; exact e4, ?_⟩
      cases k with
      | ve o =>
        obtain ⟨B, s⟩ := s
        exact ⟨B, s.frame u.ff fun _ _ => rfl⟩
      | rd o v0 =>
        obtain ⟨er, B, s⟩ := s
        exact ⟨er, B, s.frame u.ff fun _ _ => rfl⟩
      | ow o =>
        show Own K F H o e w (if j = i then A else As j)
        rw [if_neg ne]
        exact Own.up (show Own K F1 H1 o e w (As j) from s) u
      | pn o v0 =>
        refine ⟨s.1, ?_⟩
        show Own K F H o e w (if j = i then A else As j)
        rw [if_neg ne]
        exact Own.up (show Own K F1 H1 o e w (As j) from s.2) u
      | ar o =>
        show Own K F H o e w (if j = i then A else As j)
        rw [if_neg ne]
        exact Own.up (show Own K F1 H1 o e w (As j) from s) u
      | pr o v0 =>
        refine ⟨s.1, ?_⟩
        show Own K F H o e w (if j = i then A else As j)
        rw [if_neg ne]
        exact Own.up (show Own K F1 H1 o e w (As j) from s.2) u
      | al i o => trivial
  · show (if j = i then A else As j).Nodup
    split
    · exact hA
    · exact h2 j
  · have key : ∀ l a, a ∈ As l → a ∈ A → False := fun l a ha hb => (h4 l a ha).2.2 (n a hb).1
    have ha' : a ∈ (if j = i then A else As j) := ha
    have hb' : a ∈ (if l = i then A else As l) := hb
    split at ha' <;> split at hb'
    · rename_i e1 e2; rw [e1, e2]
    · exact (key l a hb' ha').elim
    · exact (key j a ha' hb').elim
    · exact h3 j l a ha' hb'
  · have ha' : a ∈ (if j = i then A else As j) := ha
    split at ha'
    · refine ⟨(n a ha').2, ?_, h.there a ha'⟩
      cases q : G a with
      | none => rfl
      | some o => exact absurd (E1.gh a o q) (by rw [(n a ha').1]; simp)
    · obtain ⟨x1, x2, x3⟩ := h4 j a ha'
      exact ⟨u.fr a x1 x3, x2, Same.some u.hh x3⟩
/-- what a changeable name holds is changed: H' differs from H at its objects alone (and by new ones) -/
theorem EnvOk.put (E : EnvOk K Ks F0 G F H σ δ) {i : Nat} {o : OT} {d : D} {v : V} {d' : D} (hk : Ks[i]? = some (.ow o)) (hd : δ[i]? = some (some d))
    (hv : σ[i]? = some (some v)) {H' : Hp} {F' : Hp}
    (step : ∀ A, Own K F H o d v A → A.Nodup → (∀ a ∈ A, F a = none) → ∃ A', Own K F' H' o d' v A' ∧ A'.Nodup ∧ Same F F' ∧ Same F' H' ∧ (∀ a, F a = none → H a ≠ none → F' a = none) ∧ (∀ a ∈ A', a ∈ A ∨ H a = none) ∧ (∀ a ∈ A', F' a = none) ∧ ∀ a, a ∉ A → H a ≠ none → H' a = H a) :
    EnvOk K Ks F0 G F' H' σ (δ.set i (some d')) := by
  obtain ⟨As, h1, h2, h3, h4⟩ := E.sl
  have hi : i < Ks.length := (List.getElem?_eq_some_iff.mp hk).1
  obtain ⟨v', e, s⟩ := h1 i _ d hk hd
  rw [hv] at e; cases e
  obtain ⟨A', o1, o2, ff, fh, fr, inA, nf, keep⟩ := step (As i) s (h2 i) fun a ha => (h4 i a ha).1
  have keepG : ∀ a, G a ≠ none → H' a = G a := fun a g => by
    rw [keep a (fun ha => g (h4 i a ha).2.1) (Same.some E.gh g)]; exact Same.eq E.gh g
  refine ⟨E.ls, by rw [List.length_set]; exact E.ld, fun a u g => ?_, E.f0.trans ff, fh, fun a e g => fr a (E.fr a e g) (Same.some E.gh g), (E.al.keep h1 h2 fun l o1 x b hb => keep b (fun hb' => (noRA hk rfl).2 o1 ((h3 l i b hb hb') ▸ x)) (h4 l b hb).2.2).setD (noRA hk rfl) _, fun j => if j = i then A' else As j, fun j k e e1 e2 => ?_, fun j => ?_, fun j l a ha hb => ?_, fun j a ha => ?_⟩
  · rw [keepG a (by rw [g]; simp)]; exact g
  · rcases getElem?_set_or e2 with ⟨rfl, e3⟩ | ⟨ne, e3⟩
    · cases e3
      rw [hk] at e1; cases e1
      refine ⟨v, hv, ?_⟩
      show Own K F' H' o d' v (if j = j then A' else As j)
      rw [if_pos rfl]; exact o1
    · obtain ⟨w, e4, s⟩ := h1 j k e e1 e3
      refine ⟨w, e4, ?_⟩
      cases k with
      | ve o =>
        obtain ⟨B, s⟩ := s
        exact ⟨B, s.frame ff fun _ _ => rfl⟩
      | rd o v0 =>
        obtain ⟨er, B, s⟩ := s
        exact ⟨er, B, s.frame ff fun _ _ => rfl⟩
      | ow o =>
        show Own K F' H' o e w (if j = i then A' else As j)
        rw [if_neg ne]
        exact Own.frame ff (show Own K F H o e w (As j) from s) fun a ha => keep a (fun hb => ne (h3 j i a ha hb)) (h4 j a ha).2.2
      | pn o v0 =>
        refine ⟨s.1, ?_⟩
        show Own K F' H' o e w (if j = i then A' else As j)
        rw [if_neg ne]
        exact Own.frame ff (show Own K F H o e w (As j) from s.2) fun a ha => keep a (fun hb => ne (h3 j i a ha hb)) (h4 j a ha).2.2
      | ar o =>
        show Own K F' H' o e w (if j = i then A' else As j)
        rw [if_neg ne]
        exact Own.frame ff (show Own K F H o e w (As j) from s) fun a ha => keep a (fun hb => ne (h3 j i a ha hb)) (h4 j a ha).2.2
      | pr o v0 =>
        refine ⟨s.1, ?_⟩
        show Own K F' H' o e w (if j = i then A' else As j)
        rw [if_neg ne]
        exact Own.frame ff (show Own K F H o e w (As j) from s.2) fun a ha => keep a (fun hb => ne (h3 j i a ha hb)) (h4 j a ha).2.2
      | al i o => trivial
  · show (if j = i then A' else As j).Nodup
    split
    · exact o2
    · exact h2 j
  · have key : ∀ l a, l ≠ i → a ∈ As l → a ∈ A' → False := fun l a ne ha hb => by
      rcases inA a hb with z | z
      · exact ne (h3 l i a ha z)
      · exact (h4 l a ha).2.2 z
    have ha' : a ∈ (if j = i then A' else As j) := ha
    have hb' : a ∈ (if l = i then A' else As l) := hb
    by_cases e1 : j = i <;> by_cases e2 : l = i
    · rw [e1, e2]
    · rw [if_pos e1] at ha'; rw [if_neg e2] at hb'; exact (key l a e2 hb' ha').elim
    · rw [if_neg e1] at ha'; rw [if_pos e2] at hb'; exact (key j a e1 ha' hb').elim
    · rw [if_neg e1] at ha'; rw [if_neg e2] at hb'; exact h3 j l a ha' hb'
  · have ha' : a ∈ (if j = i then A' else As j) := ha
    by_cases e1 : j = i
    · rw [if_pos e1] at ha'
      refine ⟨nf a ha', ?_, o1.there a ha'⟩
      rcases inA a ha' with z | z
      · exact (h4 i a z).2.1
      · cases q : G a with
        | none => rfl
        | some u => exact absurd (E.gh a u q) (by rw [z]; simp)
    · rw [if_neg e1] at ha'
      obtain ⟨x1, x2, x3⟩ := h4 j a ha'
      refine ⟨fr a x1 x3, x2, ?_⟩
      rw [keep a (fun hb => e1 (h3 j i a ha' hb)) x3]; exact x3
end Ev

set_option maxHeartbeats 4000000
namespace Ev
open PySem PySem.Spec PyProof.Rows L2
variable [Wd]
abbrev Env := List (Option D)
/-- an error: its class (a place in excT), its fields -/
structure Xd where
  c : Nat
  args : List D
inductive R where
  | ok (d : D) | ex (x : Xd)
def excT : Nat → Cl
  | 0 => ⟨"LineError", ["number"]⟩ | 1 => ⟨"BadForm", ["number"]⟩ | 2 => ⟨"Misplaced", ["number"]⟩ | 3 => ⟨"Duplicate", ["number"]⟩ | 4 => ⟨"Unknown", ["number"]⟩
  | 5 => ⟨"NotNested", ["number"]⟩ | 6 => ⟨"TooMany", ["number"]⟩ | 7 => ⟨"TooLong", ["number"]⟩ | 8 => ⟨"NoName", ["name"]⟩ | 9 => ⟨"Repeated", ["name"]⟩
  | 10 => ⟨"Overfull", []⟩ | 11 => ⟨"WrongMove", ["move"]⟩ | 12 => ⟨"BadRun", ["at"]⟩ | 13 => ⟨"NoThread", ["thread"]⟩ | 14 => ⟨"MustWait", ["lock", "blocker"]⟩
  | 15 => ⟨"Refused", ["at"]⟩ | 16 => ⟨"Deadlocked", ["cycle"]⟩ | 17 => ⟨"NoRequest", ["request"]⟩ | 18 => ⟨"NoContext", ["context"]⟩ | 19 => ⟨"NoRunCycle", []⟩
  | 20 => ⟨"Clash", ["cycle"]⟩ | 21 => ⟨"NoLockOrder", ["cycle"]⟩ | _ => ⟨"HeldError", []⟩
def XRep (K : PySem.W.Frag) (F H : Hp) (x : Xd) (cls : V) (dx : Option Addr) : Prop :=
  cls = .ref (He.ga K (excT x.c).name) ∧ match (excT x.c).fields with
    | [] => dx = none
    | f :: fs => ∃ p vs, dx = some p ∧ F p = some (.xd ((f :: fs).zip vs).reverse) ∧ vs.length = (f :: fs).length ∧ IsL K F x.args vs
/-- what an expression hands on -/
inductive Ty where
  | vw (o : OT) | fr (o : OT)
def Post (K : PySem.W.Frag) (H F' H' : Hp) : Ty → D → V → Prop
  | .vw o, d, v => ∃ A, Own K F' H' o d v A
  | .fr o, d, v => ∃ A, Own K F' H' o d v A ∧ A.Nodup ∧ ∀ a ∈ A, H a = none ∧ F' a = none
/-- a body's fixed things -/
structure Cp where
  K : PySem.W.Frag
  Ks : List Kd
  F0 : Hp
  G : Hp
  W : WX
def Cp.E (c : Cp) (F H : Hp) (σ : L2.St) (δ : Env) : Prop := EnvOk c.K c.Ks c.F0 c.G F H σ δ
/-- what a wish about errors takes in -/
def Bad (c : Cp) (F H : Hp) (σ : L2.St) (x : Xd) : Prop := ∀ cls u dx F' H', RelV cls u → Up F H F' H' → XRep c.K F' H' x cls dx → c.W u dx σ H'
/-- what is wanted of an outcome -/
def Gv (c : Cp) (ty : Ty) (F H : Hp) (σ : L2.St) (Q : VK) : Option R → Prop
  | some (.ok d) => ∀ v F' H', Up F H F' H' → Post c.K H F' H' ty d v → Q v H'
  | some (.ex x) => Bad c F H σ x
  | none => False
def Gt (c : Cp) (F H : Hp) (σ : L2.St) (Q : Bool → Hp → Prop) : Option R → Prop
  | some (.ok (.bl b)) => ∀ F' H', Up F H F' H' → Q b H'
  | some (.ex x) => Bad c F H σ x
  | _ => False
def tV (c : Cp) (ty : Ty) (f : Env → Option R) : TE := fun σ H Q => ∃ F δ, c.E F H σ δ ∧ Gv c ty F H σ Q (f δ)
def tT (c : Cp) (f : Env → Option R) : TT := fun σ H Q => ∃ F δ, c.E F H σ δ ∧ Gt c F H σ Q (f δ)
inductive RL where
  | ok (ds : List D) | ex (x : Xd)
/-- each as its type asks -/
def ViewL (K : PySem.W.Frag) (F H : Hp) : List OT → List D → List V → Prop
  | [], [], vs => vs = []
  | o :: os, d :: ds, vs => ∃ v r, vs = v :: r ∧ (∃ A, Own K F H o d v A) ∧ ViewL K F H os ds r
  | _, _, _ => False
def Gl' (c : Cp) (os : List OT) (F H : Hp) (σ : L2.St) (Q : List V → Hp → Prop) : Option RL → Prop
  | some (.ok ds) => ∀ vs F' H', Up F H F' H' → ViewL c.K F' H' os ds vs → Q vs H'
  | some (.ex x) => Bad c F H σ x
  | none => False
def tL (c : Cp) (os : List OT) (f : Env → Option RL) : TA := fun σ H Q => ∃ F δ, c.E F H σ δ ∧ Gl' c os F H σ Q (f δ)
def bnd (r : Option R) (k : D → Option R) : Option R := match r with
  | some (.ok d) => k d
  | some (.ex x) => some (.ex x)
  | none => none
def bndL (r : Option RL) (k : List D → Option R) : Option R := match r with
  | some (.ok d) => k d
  | some (.ex x) => some (.ex x)
  | none => none
def okO : Option D → Option R
  | some d => some (.ok d)
  | none => none
def okB : Option Bool → Option R
  | some b => some (.ok (.bl b))
  | none => none
variable {X : Cx} {c : Cp} {F G H F' H' : Hp} {σ : L2.St} {δ : Env} {o : OT}
theorem PE.imp {e : Expr} {t t' : TE} (h : PE X e t) (i : ∀ σ H Q, t' σ H Q → t σ H Q) : PE X e t' := ⟨fun pins s σ H Q I q => h.run pins s σ H Q I (i σ H Q q)⟩
theorem PT.imp {e : Expr} {t t' : TT} (h : PT X e t) (i : ∀ σ H Q, t' σ H Q → t σ H Q) : PT X e t' := ⟨fun pins s σ H Q I q => h.run pins s σ H Q I (i σ H Q q)⟩
theorem PA.imp {es : List Expr} {t t' : TA} (h : PA X es t) (i : ∀ σ H Q, t' σ H Q → t σ H Q) : PA X es t' := ⟨fun pos pins s σ H Q I q => h.run pos pins s σ H Q I (i σ H Q q)⟩
theorem Cp.E.up (E : c.E F H σ δ) (u : Up F H F' H') : c.E F' H' σ δ := EnvOk.up E u
theorem Bad.up {x : Xd} (b : Bad c F H σ x) (u : Up F H F' H') : Bad c F' H' σ x := fun cls v dx F2 H2 r u2 h => b cls v dx F2 H2 r (u.trans u2) h
theorem ViewL.up (u : Up F H F' H') : ∀ {os : List OT} {ds : List D} {vs : List V}, ViewL c.K F H os ds vs → ViewL c.K F' H' os ds vs
  | [], [], _, h => h
  | o :: os, d :: ds, _, h => by
    simp only [ViewL] at h ⊢
    obtain ⟨v, r, e, ⟨A, h1⟩, h2⟩ := h
    exact ⟨v, r, e, ⟨A, h1.up u⟩, ViewL.up u h2⟩
  | [], _ :: _, _, h => by simp [ViewL] at h
  | _ :: _, [], _, h => by simp [ViewL] at h
def OT.isBw : OT → Bool
  | .bw => true
  | _ => false
def OT.isFz : OT → Bool
  | .fz => true
  | _ => false
def OT.toBwB : OT → Bool
  | .fz => true
  | .bw => true
  | .dic => true
  | .dct => true
  | .lst .fz => true
  | _ => false
def coe : Ty → OT → Bool
  | .vw o, o' => OT.beq o o' || (o'.isBw && o.toBwB)
  | .fr o, o' => o'.isFz || o'.isBw || OT.beq o o'
theorem OwnL.fz {K : PySem.W.Frag} : ∀ {ds : List D} {vs : List V} {B : List Addr}, OwnL K F H .fz ds vs B → B = [] ∧ IsL K F ds vs
  | [], vs, B, h => by simp only [OwnL] at h; exact ⟨h.2, h.1⟩
  | d :: ds, vs, B, h => by
    simp only [OwnL] at h
    obtain ⟨v, r, A1, A2, rfl, h1, h2, rfl⟩ := h
    obtain ⟨e1, e2⟩ := OwnL.fz h2
    simp only [Own] at h1
    exact ⟨by rw [h1.1, e1]; rfl, v, r, rfl, h1.2, e2⟩
theorem OwnL.of_fz {K : PySem.W.Frag} : ∀ {ds : List D} {vs : List V}, IsL K F ds vs → OwnL K F H .fz ds vs []
  | [], vs, h => by simp only [IsL] at h; simp only [OwnL]; exact ⟨h, trivial⟩
  | d :: ds, vs, h => by
    simp only [IsL] at h
    obtain ⟨v, r, rfl, h1, h2⟩ := h
    simp only [OwnL]
    exact ⟨v, r, [], [], rfl, Own.of_is h1, OwnL.of_fz h2, rfl⟩
theorem Own.toBw {K : PySem.W.Frag} {o : OT} {d : D} {v : V} {A : List Addr} (h : Own K F H o d v A) (e : o = .fz ∨ o = .bw ∨ o = .lst .fz ∨ o = .dic ∨ o = .dct) : ∃ A, Own K F H .bw d v A := by
  rcases e with rfl | rfl | rfl | rfl | rfl
  · exact ⟨[], by simp only [Own]; exact .inl ⟨rfl, h.is⟩⟩
  · exact ⟨A, h⟩
  · cases d with
    | lst ds =>
      simp only [Own] at h
      obtain ⟨a, vs, B, e, h1, h2, rfl⟩ := h
      refine ⟨[a], ?_⟩
      simp only [Own]
      exact .inr (.inl ⟨ds, a, vs, rfl, e, h1, h2.fz.2, rfl⟩)
    | _ => simp [Own] at h
  · cases d with
    | dic ks ds =>
      simp only [Own] at h
      obtain ⟨a, kvs, e, h1, h2, h3, rfl⟩ := h
      refine ⟨[a], ?_⟩
      simp only [Own]
      exact .inr (.inr (.inl ⟨ks, ds, a, kvs, rfl, e, h1, h2, h3, rfl⟩))
    | _ => simp [Own] at h
  · cases d with
    | dct ks ds =>
      simp only [Own] at h
      obtain ⟨a, o, kvs, e, h1, h2, h3, h4, rfl⟩ := h
      refine ⟨[a], ?_⟩
      simp only [Own]
      exact .inr (.inr (.inr ⟨ks, ds, a, o, kvs, rfl, e, h1, h2, h3, h4, rfl⟩))
    | _ => simp [Own] at h
/-- behind an expression its value is taken as o asks (what is new may be frozen) -/
theorem Post.coe {F1 H1 : Hp} {ty : Ty} {o : OT} {d : D} {v : V} (h : Post c.K H F1 H1 ty d v) (u : Up F H F1 H1) (e : coe ty o = true) : ∃ F2, Up F H F2 H1 ∧ Same F1 F2 ∧ ∃ A, Own c.K F2 H1 o d v A := by
  have fz : ∀ {o'}, ty = .fr o' → ∃ F2, Up F H F2 H1 ∧ Same F1 F2 ∧ ∃ A, Own c.K F2 H1 .fz d v A := fun {o'} e => by
    subst e
    obtain ⟨A, h1, h2, h3⟩ := h
    refine ⟨frz F1 H1 A, u.freeze fun a ha => (h3 a ha).1, frz_ff u.fh, [], Own.of_is (h1.freeze (frz_ff u.fh) fun a ha => frz_in ha)⟩
  cases ty with
  | fr o' =>
    simp only [Ev.coe, Bool.or_eq_true] at e
    rcases e with (e | e) | e
    · cases o <;> simp [OT.isFz] at e
      exact fz rfl
    · cases o <;> simp [OT.isBw] at e
      obtain ⟨F2, u2, s2, A, h2⟩ := fz rfl
      obtain ⟨B, h3⟩ := h2.toBw (.inl rfl)
      exact ⟨F2, u2, s2, B, h3⟩
    · obtain ⟨A, h, _⟩ := h
      rw [OT.beq_eq e] at h
      exact ⟨F1, u, Same.refl _, A, h⟩
  | vw o' =>
    obtain ⟨A, h⟩ := h
    simp only [Ev.coe, Bool.or_eq_true, Bool.and_eq_true] at e
    rcases e with e | ⟨e1, e2⟩
    · rw [OT.beq_eq e] at h
      exact ⟨F1, u, Same.refl _, A, h⟩
    · cases o <;> simp [OT.isBw] at e1
      obtain ⟨B, h3⟩ := h.toBw (by
        cases o' with
        | fz => exact .inl rfl
        | bw => exact .inr (.inl rfl)
        | dic => exact .inr (.inr (.inr (.inl rfl)))
        | dct => exact .inr (.inr (.inr (.inr rfl)))
        | lst o2 => cases o2 <;> simp [OT.toBwB] at e2; exact .inr (.inr (.inl rfl))
        | _ => simp [OT.toBwB] at e2)
      exact ⟨F1, u, Same.refl _, B, h3⟩
theorem Post.up {H1 F' H' : Hp} {ty : Ty} {d : D} {v : V} (s : Same H H1) (p : Post c.K H1 F' H' ty d v) : Post c.K H F' H' ty d v := by
  cases ty with
  | vw o => exact p
  | fr o =>
    obtain ⟨A, h1, h2, h3⟩ := p
    exact ⟨A, h1, h2, fun a ha => ⟨s.free (h3 a ha).1, (h3 a ha).2⟩⟩
theorem Gv.up {ty : Ty} {Q : VK} {r : Option R} (g : Gv c ty F H σ Q r) (u : Up F H F' H') : Gv c ty F' H' σ Q r := by
  cases r with
  | none => exact g
  | some r =>
    cases r with
    | ok d => exact fun v F2 H2 u2 p => g v F2 H2 (u.trans u2) (p.up u.hh)
    | ex x => exact Bad.up g u
theorem Gt.up {Q : Bool → Hp → Prop} {r : Option R} (g : Gt c F H σ Q r) (u : Up F H F' H') : Gt c F' H' σ Q r := by
  cases r with
  | none => exact g
  | some r =>
    cases r with
    | ok d =>
      cases d with
      | bl b => exact fun F2 H2 u2 => g F2 H2 (u.trans u2)
      | _ => exact g
    | ex x => exact Bad.up g u
/-- an expression ahead of the rest k; Gd: what is wanted in the end (a Gv, Gt, ..) -/
theorem tV.go {ta : Ty} {oa : OT} {fa : Env → Option R} {Q1 : VK} {Gd : Hp → Hp → Option R → Prop} {k : D → Option R} (co : coe ta oa = true) (E : c.E F H σ δ)
    (hb : ∀ x, Gd F H (some (.ex x)) → Bad c F H σ x) (hn : ¬ Gd F H none) (hup : ∀ r F1 H1, Gd F H r → Up F H F1 H1 → Gd F1 H1 r) (h : Gd F H (bnd (fa δ) k))
    (hk : ∀ d v F1 H1, fa δ = some (.ok d) → Up F H F1 H1 → c.E F1 H1 σ δ → (∃ A, Own c.K F1 H1 oa d v A) → Gd F1 H1 (k d) → Q1 v H1) : tV c ta fa σ H Q1 := by
  refine ⟨F, δ, E, ?_⟩
  cases e : fa δ with
  | none => rw [e] at h; exact (hn h).elim
  | some r =>
    rw [e] at h
    cases r with
    | ex x => exact hb x h
    | ok d =>
      intro v F1 H1 u p
      obtain ⟨F2, u2, s2, A, o⟩ := p.coe u co
      exact hk d v F2 H1 e u2 (E.up u2) ⟨A, o⟩ (hup _ _ _ h u2)
theorem tV.goV {ta ty : Ty} {oa : OT} {fa : Env → Option R} {Q1 Q : VK} {k : D → Option R} (co : coe ta oa = true) (E : c.E F H σ δ) (h : Gv c ty F H σ Q (bnd (fa δ) k))
    (hk : ∀ d v F1 H1, Up F H F1 H1 → c.E F1 H1 σ δ → (∃ A, Own c.K F1 H1 oa d v A) → Gv c ty F1 H1 σ Q (k d) → Q1 v H1) : tV c ta fa σ H Q1 :=
  tV.go (Gd := fun F H r => Gv c ty F H σ Q r) co E (fun _ h => h) (fun h => h) (fun _ _ _ g u => g.up u) h fun d v F1 H1 _ => hk d v F1 H1
theorem tV.goT {ta : Ty} {oa : OT} {fa : Env → Option R} {Q1 : VK} {Q : Bool → Hp → Prop} {k : D → Option R} (co : coe ta oa = true) (E : c.E F H σ δ) (h : Gt c F H σ Q (bnd (fa δ) k))
    (hk : ∀ d v F1 H1, Up F H F1 H1 → c.E F1 H1 σ δ → (∃ A, Own c.K F1 H1 oa d v A) → Gt c F1 H1 σ Q (k d) → Q1 v H1) : tV c ta fa σ H Q1 :=
  tV.go (Gd := fun F H r => Gt c F H σ Q r) co E (fun _ h => h) (fun h => h) (fun _ _ _ g u => g.up u) h fun d v F1 H1 _ => hk d v F1 H1
/-- .. the operand as it is -/
theorem tV.goW {ty : Ty} {fa : Env → Option R} {Q1 Q : VK} {k : D → Option R} (E : c.E F H σ δ) (h : Gv c ty F H σ Q (bnd (fa δ) k))
    (hk : ∀ d v F1 H1, fa δ = some (.ok d) → Up F H F1 H1 → c.E F1 H1 σ δ → (∃ A, Own c.K F1 H1 o d v A) → Gv c ty F1 H1 σ Q (k d) → Q1 v H1) : tV c (.vw o) fa σ H Q1 := by
  refine ⟨F, δ, E, ?_⟩
  cases e : fa δ with
  | none => rw [e] at h; exact h.elim
  | some r =>
    rw [e] at h
    cases r with
    | ex x => exact h
    | ok d =>
      intro v F1 H1 u p
      exact hk d v F1 H1 e u (E.up u) p (Gv.up h u)
theorem Gv.okO {Q : VK} {r : Option D} (g : Gv c (.vw .fz) F H σ Q (Ev.okO r)) : ∃ d, r = some d ∧ ∀ v F' H', Up F H F' H' → Is c.K F' d v → Q v H' := by
  cases r with
  | none => exact g.elim
  | some d => exact ⟨d, rfl, fun v F' H' u i => g v F' H' u ⟨[], Own.of_is i⟩⟩
theorem Gv.okB {Q : VK} {r : Option Bool} (g : Gv c (.vw .fz) F H σ Q (Ev.okB r)) : ∃ b, r = some b ∧ ∀ F' H', Up F H F' H' → Q (.bl b) H' := by
  cases r with
  | none => exact g.elim
  | some b => exact ⟨b, rfl, fun F' H' u => g _ F' H' u ⟨[], Own.of_is (by simp only [Is])⟩⟩
theorem Gt.okB {Q : Bool → Hp → Prop} {r : Option Bool} (g : Gt c F H σ Q (Ev.okB r)) : ∃ b, r = some b ∧ ∀ F' H', Up F H F' H' → Q b H' := by
  cases r with
  | none => exact g.elim
  | some b => exact ⟨b, rfl, g⟩
def evVar (i : Nat) : Env → Option R := fun δ => match δ[i]? with
  | some (some d) => some (.ok d)
  | _ => none
theorem s_var {i : Nat} {k : Kd} {x : Str} {pos : Pos} (hN : X.N[i]? = some x) (hv : Vis X.env.scope x) (hd : (x == ("__debug__" : Str)) = false) (hcd : (x == ("__classdict__" : Str)) = false) (hk : c.Ks[i]? = some k) (hna : k.isAl = false := by rfl) :
    PE X (.Name x pos) (tV c (.vw k.ot) (evVar i)) := by
  refine PE.imp (pe_var hN hv hd hcd) fun σ H Q h => ?_
  obtain ⟨F, δ, E, h⟩ := h
  unfold evVar at h
  cases e : δ[i]? with
  | none => rw [e] at h; exact h.elim
  | some o =>
    cases o with
    | none => rw [e] at h; exact h.elim
    | some d =>
      rw [e] at h
      obtain ⟨v, e1, A, h1⟩ := EnvOk.var E hk e hna
      exact ⟨v, e1, h v F H (Up.refl E.fh) ⟨A, h1⟩⟩
theorem s_c {e : Expr} {v : V} {d : D} (h : PE X e (tC v)) (hd : ∀ K H, Is K H d v) : PE X e (tV c (.vw .fz) fun _ => some (.ok d)) := by
  refine PE.imp h fun σ H Q h => ?_
  obtain ⟨F, δ, E, h⟩ := h
  exact h v F H (Up.refl E.fh) ⟨[], Own.of_is (hd _ _)⟩
/-- the operator's rule, on data: operands taken as oa, ob -/
def OpS (X : Cx) (c : Cp) (g : Value → Value → Sem Value) (oa ob : OT) (f : D → D → Option D) : Prop := ∃ r : R2, OpR X g r ∧
  ∀ (F H : Hp) (x y : V) (dx dy d : D) (A B : List Addr) (Q : VK), Same F H → Own c.K F H oa dx x A → Own c.K F H ob dy y B → f dx dy = some d → (∀ v F' H', Up F H F' H' → Is c.K F' d v → Q v H') → r x y H Q
variable {a b : Expr} {pos : Pos} {ta tb : Ty} {oa ob : OT} {fa fb : Env → Option R}
theorem s_bin {op : Operator} {f : D → D → Option D} (ho : OpS X c (binaryOp op) oa ob f) (ha : PE X a (tV c ta fa)) (hb : PE X b (tV c tb fb)) (ca : coe ta oa = true) (cb : coe tb ob = true) :
    PE X (.BinOp a op b pos) (tV c (.vw .fz) fun δ => bnd (fa δ) fun x => bnd (fb δ) fun y => okO (f x y)) := by
  obtain ⟨r, hr, hf⟩ := ho
  refine PE.imp (pe_op hr ha hb) fun σ H Q h => ?_
  obtain ⟨F, δ, E, h⟩ := h
  refine tV.goV ca E h fun dx x F1 H1 u1 E1 hx h1 => ?_
  refine tV.goV cb E1 h1 fun dy y F2 H2 u2 E2 hy h2 => ?_
  obtain ⟨A, hx⟩ := hx
  obtain ⟨B, hy⟩ := hy
  obtain ⟨d, e, q⟩ := h2.okO
  exact hf F2 H2 x y dx dy d A B Q u2.fh (hx.up u2) hy e q
theorem s_cmp {op : CmpOp} {f : D → D → Option Bool} (ho : OpS X c (compareOp op) oa ob fun x y => (f x y).map D.bl) (ha : PE X a (tV c ta fa)) (hb : PE X b (tV c tb fb)) (ca : coe ta oa = true) (cb : coe tb ob = true) (hm : behindInMarks op b = false) :
    PE X (.Compare a [op] [b] pos) (tV c (.vw .fz) fun δ => bnd (fa δ) fun x => bnd (fb δ) fun y => okB (f x y)) := by
  obtain ⟨r, hr, hf⟩ := ho
  refine PE.imp (pe_cmpR hr ha hb hm) fun σ H Q h => ?_
  obtain ⟨F, δ, E, h⟩ := h
  refine tV.goV ca E h fun dx x F1 H1 u1 E1 hx h1 => ?_
  refine tV.goV cb E1 h1 fun dy y F2 H2 u2 E2 hy h2 => ?_
  obtain ⟨A, hx⟩ := hx
  obtain ⟨B, hy⟩ := hy
  obtain ⟨k, e, q⟩ := h2.okB
  refine hf F2 H2 x y dx dy (.bl k) A B Q u2.fh (hx.up u2) hy (by show (f dx dy).map D.bl = _; rw [e]; rfl) fun v F' H' u i => ?_
  simp only [Is] at i
  rw [i]; exact q F' H' u
theorem t_cmp {op : CmpOp} {f : D → D → Option Bool} (ho : OpS X c (compareOp op) oa ob fun x y => (f x y).map D.bl) (ha : PE X a (tV c ta fa)) (hb : PE X b (tV c tb fb)) (ca : coe ta oa = true) (cb : coe tb ob = true) (hm : behindInMarks op b = false) :
    PT X (.Compare a [op] [b] pos) (tT c fun δ => bnd (fa δ) fun x => bnd (fb δ) fun y => okB (f x y)) := by
  obtain ⟨r, hr, hf⟩ := ho
  refine PT.imp (pt_cmpR hr ha hb hm) fun σ H Q h => ?_
  obtain ⟨F, δ, E, h⟩ := h
  refine tV.goT ca E h fun dx x F1 H1 u1 E1 hx h1 => ?_
  refine tV.goT cb E1 h1 fun dy y F2 H2 u2 E2 hy h2 => ?_
  obtain ⟨A, hx⟩ := hx
  obtain ⟨B, hy⟩ := hy
  obtain ⟨k, e, q⟩ := h2.okB
  refine hf F2 H2 x y dx dy (.bl k) A B _ u2.fh (hx.up u2) hy (by show (f dx dy).map D.bl = _; rw [e]; rfl) fun v F' H' u i => ?_
  simp only [Is] at i
  exact ⟨k, i, q F' H' u⟩
end Ev

set_option maxHeartbeats 4000000
namespace Ev
open PySem PySem.Spec PyProof.Rows L2
variable [Wd]
variable {X : Cx} {c : Cp} {F G H F' H' : Hp} {σ : L2.St} {δ : Env} {a b e : Expr} {pos : Pos} {ta tb tc ty : Ty} {oa ob oc : OT} {fa fb fc : Env → Option R}
def bndB (r : Option R) (k : Bool → Option R) : Option R := match r with
  | some (.ok (.bl b)) => k b
  | some (.ex x) => some (.ex x)
  | _ => none
theorem bndB_eq (r : Option R) (k : Bool → Option R) : bndB r k = bnd r fun d => bndB (some (.ok d)) k := by
  cases r with
  | none => rfl
  | some r => cases r <;> rfl
theorem bnd_id (r : Option R) : bnd r (fun d => some (.ok d)) = r := by
  cases r with
  | none => rfl
  | some r => cases r <;> rfl
theorem Gt.bl {Q : Bool → Hp → Prop} {b : Bool} (g : Gt c F H σ Q (some (.ok (.bl b)))) : ∀ F' H', Up F H F' H' → Q b H' := g
/-- a test ahead of the rest -/
theorem tT.go {Q1 : Bool → Hp → Prop} {Gd : Hp → Hp → Option R → Prop} {k : Bool → Option R} (E : c.E F H σ δ)
    (hb : ∀ x, Gd F H (some (.ex x)) → Bad c F H σ x) (hn : ¬ Gd F H none) (hup : ∀ r F1 H1, Gd F H r → Up F H F1 H1 → Gd F1 H1 r) (h : Gd F H (bndB (fa δ) k))
    (hk : ∀ b F1 H1, Up F H F1 H1 → c.E F1 H1 σ δ → Gd F1 H1 (k b) → Q1 b H1) : tT c fa σ H Q1 := by
  refine ⟨F, δ, E, ?_⟩
  cases e : fa δ with
  | none => rw [e] at h; exact (hn h).elim
  | some r =>
    rw [e] at h
    cases r with
    | ex x => exact hb x h
    | ok d =>
      cases d with
      | bl b => exact fun F1 H1 u => hk b F1 H1 u (E.up u) (hup _ _ _ h u)
      | _ => exact (hn h).elim
theorem tT.goT {Q Q1 : Bool → Hp → Prop} {k : Bool → Option R} (E : c.E F H σ δ) (h : Gt c F H σ Q (bndB (fa δ) k))
    (hk : ∀ b F1 H1, Up F H F1 H1 → c.E F1 H1 σ δ → Gt c F1 H1 σ Q (k b) → Q1 b H1) : tT c fa σ H Q1 :=
  tT.go (Gd := fun F H r => Gt c F H σ Q r) E (fun _ h => h) (fun h => h) (fun _ _ _ g u => g.up u) h hk
theorem tT.goV {ty : Ty} {Q : VK} {Q1 : Bool → Hp → Prop} {k : Bool → Option R} (E : c.E F H σ δ) (h : Gv c ty F H σ Q (bndB (fa δ) k))
    (hk : ∀ b F1 H1, Up F H F1 H1 → c.E F1 H1 σ δ → Gv c ty F1 H1 σ Q (k b) → Q1 b H1) : tT c fa σ H Q1 :=
  tT.go (Gd := fun F H r => Gv c ty F H σ Q r) E (fun _ h => h) (fun h => h) (fun _ _ _ g u => g.up u) h hk
/-- a value that is a bool, as a test -/
theorem t_val (ha : PE X a (tV c ta fa)) (he : ∀ whole, isTrue a X.env whole = (do let v ← whole; standAt a.pos; holding [v] (truthy v))) (ca : coe ta .fz = true) : PT X a (tT c fa) := by
  refine PT.imp (pt_val ha he) fun σ H Q h => ?_
  obtain ⟨F, δ, E, h⟩ := h
  rw [← bnd_id (fa δ)] at h
  refine tV.goT ca E h fun dx x F1 H1 u1 E1 hx h1 => ?_
  obtain ⟨A, hx⟩ := hx
  cases dx with
  | bl b =>
    have q := hx.is
    simp only [Is] at q
    exact ⟨b, q, h1 F1 H1 (Up.refl u1.fh)⟩
  | _ => exact h1.elim
theorem t_not (ha : PT X a (tT c fa)) : PT X (.UnaryOp .Not a pos) (tT c fun δ => bndB (fa δ) fun b => some (.ok (.bl (!b)))) := by
  refine PT.imp (pt_not ha) fun σ H Q h => ?_
  obtain ⟨F, δ, E, h⟩ := h
  exact tT.goT E h fun b F1 H1 u1 E1 h1 => h1 F1 H1 (Up.refl u1.fh)
theorem s_not (ha : PE X a (tV c ta fa)) (ca : coe ta .fz = true) : PE X (.UnaryOp .Not a pos) (tV c (.vw .fz) fun δ => bndB (fa δ) fun b => some (.ok (.bl (!b)))) := by
  refine PE.imp (pe_not ha) fun σ H Q h => ?_
  obtain ⟨F, δ, E, h⟩ := h
  change Gv c (.vw .fz) F H σ Q (bndB (fa δ) _) at h
  rw [bndB_eq] at h
  refine tV.goV ca E h fun dx x F1 H1 u1 E1 hx h1 => ?_
  obtain ⟨A, hx⟩ := hx
  cases dx with
  | bl b =>
    have q := hx.is
    simp only [Is] at q
    exact ⟨b, q, h1 _ F1 H1 (Up.refl u1.fh) ⟨[], Own.of_is (by simp only [Is])⟩⟩
  | _ => exact h1.elim
/-- and, or: as tests -/
theorem w_one {op : BoolOp} (ha : PT X a (tT c fa)) : PW X (.BoolOp op [a] pos) (tT c fa) := by
  cases op with
  | And => exact pw_and1 ha
  | Or => exact pw_or1 ha
theorem PW.imp {t t' : TT} (h : PW X e t) (i : ∀ σ H Q, t' σ H Q → t σ H Q) : PW X e t' := ⟨fun wh pins s σ H Q I q => h.run wh pins s σ H Q I (i σ H Q q)⟩
theorem w_and {rest : List Expr} (ha : PT X a (tT c fa)) (hb : PW X (.BoolOp .And (b :: rest) pos) (tT c fb)) :
    PW X (.BoolOp .And (a :: b :: rest) pos) (tT c fun δ => bndB (fa δ) fun x => if x then fb δ else some (.ok (.bl false))) := by
  refine PW.imp (pw_and ha hb) fun σ H Q h => ?_
  obtain ⟨F, δ, E, h⟩ := h
  refine tT.goT E h fun x F1 H1 u1 E1 h1 => ?_
  cases x with
  | true => exact ⟨F1, δ, E1, h1⟩
  | false => exact h1 F1 H1 (Up.refl u1.fh)
theorem w_or {rest : List Expr} (ha : PT X a (tT c fa)) (hb : PW X (.BoolOp .Or (b :: rest) pos) (tT c fb)) :
    PW X (.BoolOp .Or (a :: b :: rest) pos) (tT c fun δ => bndB (fa δ) fun x => if x then some (.ok (.bl true)) else fb δ) := by
  refine PW.imp (pw_or ha hb) fun σ H Q h => ?_
  obtain ⟨F, δ, E, h⟩ := h
  refine tT.goT E h fun x F1 H1 u1 E1 h1 => ?_
  cases x with
  | true => exact h1 F1 H1 (Up.refl u1.fh)
  | false => exact ⟨F1, δ, E1, h1⟩
/-- .. as values -/
theorem s_one {op : BoolOp} (ha : PE X a (tV c ta fa)) : PE X (.BoolOp op [a] pos) (tV c ta fa) := pe_one ha
theorem s_and {rest : List Expr} (ha : PE X a (tV c ta fa)) (ca : coe ta .fz = true) (hb : PE X (.BoolOp .And (b :: rest) pos) (tV c (.vw .fz) fb)) :
    PE X (.BoolOp .And (a :: b :: rest) pos) (tV c (.vw .fz) fun δ => bndB (fa δ) fun x => if x then fb δ else some (.ok (.bl false))) := by
  refine PE.imp (pe_and ha hb) fun σ H Q h => ?_
  obtain ⟨F, δ, E, h⟩ := h
  change Gv c (.vw .fz) F H σ Q (bndB (fa δ) _) at h
  rw [bndB_eq] at h
  refine tV.goV ca E h fun dx x F1 H1 u1 E1 hx h1 => ?_
  obtain ⟨A, hx⟩ := hx
  cases dx with
  | bl b =>
    have q := hx.is
    simp only [Is] at q
    refine ⟨b, q, ?_⟩
    cases b with
    | true => exact ⟨F1, δ, E1, h1⟩
    | false => exact h1 _ F1 H1 (Up.refl u1.fh) ⟨[], Own.of_is (by simp only [Is])⟩
  | _ => exact h1.elim
/-- a type's forgetting -/
theorem s_fz (ha : PE X a (tV c ta fa)) (ca : coe ta .fz = true) : PE X a (tV c (.vw .fz) fa) := by
  refine PE.imp ha fun σ H Q h => ?_
  obtain ⟨F, δ, E, h⟩ := h
  rw [← bnd_id (fa δ)] at h
  exact tV.goV ca E h fun dx x F1 H1 u1 E1 hx h1 => h1 x F1 H1 (Up.refl u1.fh) hx
end Ev
namespace L2
open PySem PySem.Spec PyProof.Rows
section
variable {X : Cx} {pins : List (Addr × Obj)} {σ : St} {H : Hp} {s : Shared}
/-- what a rule says of a new tuple -/
def NewT (H : Hp) (xs : List V) (Q : VK) : Prop := ∀ p o, H p = none → Obj.dict o = none → Q (.ref p) (upd H p (.frz o (.tup xs)))
theorem newT_ep {xs : List V} {its : List Value} {h1 : Heap} {tk : Nat} {Q : VK} (J : Inv X pins σ H { s with heap := h1, toks := tk }) (rv : Vals xs its) (zl : xs.length ≤ sizeLine) (q : NewT H xs Q) :
    EP X pins σ Q (.ref h1.objs.size) { s with heap := h1.push { cls := .type "tuple", data := .seq its.toArray }, toks := tk } := by
  have hnew : (h1.push { cls := .type "tuple", data := .seq its.toArray }).get? h1.objs.size = some { cls := .type "tuple", data := .seq its.toArray } := Heap.get?_push_size _ rfl
  have hfree : H h1.objs.size = none := J.hok.fresh (Nat.le_refl _)
  refine ⟨.ref h1.objs.size, upd H h1.objs.size (.frz { cls := .type "tuple", data := .seq its.toArray } (.tup xs)), ?_, rfl, q _ _ hfree rfl⟩
  exact J.laid (t' := tk) (fun b ob eb => Heap.get?_push_of_some _ eb) (Nat.le_refl _) ⟨hnew, zl, its, rv, ⟨_, hnew, rfl, _, rfl⟩⟩
def tTupX (t : TA) : TE := fun σ H Q => t σ H fun vs H1 => vs.length ≤ sizeLine ∧ NewT H1 vs Q
theorem pe_tupX {es : List Expr} {t : TA} {kx : Nat} {pos : Pos} (ht : PA X es t) : PE X (.Tuple es kx pos) (tTupX t) := by
  constructor
  intro pins s σ H Q J hq
  refine wpAny_Tuple_spliced (thn (ht.run pos pins s σ H _ J hq) fun us s1 ⟨vs, H1, J1, rv, zl, q⟩ => ⟨by have := rv.length; omega, ?_⟩)
  exact newT_ep (tk := s1.toks) J1 rv zl q
theorem call_tupleX : CallR X (.type "tuple") (fun vs H Q => ∃ p ys, vs = [.ref p] ∧ ((SqL X.K H p ys ∧ NewT H ys Q) ∨ (SqT X.K H p ys ∧ Q (.ref p) H))) := by
  intro pins s σ H vs us Q J rv hq
  obtain ⟨p, ys, rfl, hq⟩ := hq
  obtain ⟨u, rfl, ru⟩ := vals1 rv
  cases ru
  rcases hq with ⟨hl, q⟩ | ⟨ht, q⟩
  · obtain ⟨its, r1, pl, zl⟩ := J.list hl
    have len1 := r1.length
    refine call_tuple_list pl.isList (fun h1 kp => ?_) (by rw [List.size_toArray]; omega)
    exact newT_ep (tk := s.toks) (J.kept (t' := s.toks) kp) r1 zl q
  · obtain ⟨its, r1, pl, _⟩ := J.tuple ht
    exact call_tuple_same pl ⟨.ref p, H, J, rfl, q⟩
def rCatX (K : PySem.W.Frag) : R2 := fun x y H Q => ∃ a b xs ys, x = .ref a ∧ y = .ref b ∧ SqT K H a xs ∧ SqT K H b ys ∧ xs.length + ys.length ≤ sizeLine ∧
  (xs = [] → Q (.ref b) H) ∧ (xs ≠ [] → ys = [] → Q (.ref a) H) ∧ (xs ≠ [] → ys ≠ [] → NewT H (xs ++ ys) Q)
theorem op_catX : OpR X (binaryOp .Add) (rCatX X.K) := by
  intro pins s σ H x y v u Q J rx ry hq
  obtain ⟨a, b, xs, ys, rfl, rfl, ha, hb, zl, q0, q1, q2⟩ := hq
  cases rx
  cases ry
  obtain ⟨i1, r1, t1, _⟩ := J.tuple ha
  obtain ⟨i2, r2, t2, _⟩ := J.tuple hb
  by_cases ex : xs = []
  · subst ex
    cases r1
    exact cat_tup0 t1 t2 ⟨.ref b, H, J, rfl, q0 rfl⟩
  · refine HT.cat_tup t1 t2 (fun e => ex (r1.nil_iff.mp e)) (fun e => ⟨.ref a, H, J, rfl, q1 ex (r2.nil_iff.mp e)⟩) (fun e => ?_) (by have k1 := r1.length; have k2 := r2.length; omega)
    exact newT_ep (h1 := s.heap) (tk := s.toks) J (r1.append r2) (by rw [List.length_append]; exact zl) (q2 ex fun e2 => e (r2.nil_iff.mpr e2))
def rSlX (K : PySem.W.Frag) : V → Option Int → Option Int → Hp → VK → Prop := fun x lo hi H Q => ∃ a xs, x = .ref a ∧ SqT K H a xs ∧
  (HT.sIx xs.length 0 lo = 0 ∧ HT.sIx xs.length xs.length hi = xs.length → Q (.ref a) H) ∧ (¬ (HT.sIx xs.length 0 lo = 0 ∧ HT.sIx xs.length xs.length hi = xs.length) → NewT H (cutV xs lo hi) Q)
theorem sl_tupX : SlR X (rSlX X.K) := by
  intro pins s σ H x v vl vu lo hi sl Q J rx hs pl pu hq
  obtain ⟨a, xs, rfl, hx, q1, q2⟩ := hq
  by_cases whole : HT.sIx xs.length 0 lo = 0 ∧ HT.sIx xs.length xs.length hi = xs.length
  · exact sl_tupA pins s σ H _ v vl vu lo hi sl Q J rx hs pl pu ⟨a, xs, rfl, hx, fun _ => q1 whole, fun nw => (nw whole).elim⟩
  · cases rx
    obtain ⟨its, r1, t1, zl⟩ := J.tuple hx
    have sz : its.toArray.size = xs.length := by rw [List.size_toArray]; exact r1.length.symm
    refine ⟨"tuple", _, PyProof.Rows.slot_tuple_getitem.lookup, t1.typeIs, ?_⟩
    refine HT.getItem_tuple_cut t1 hs pl pu (by rw [sz]; exact whole) ?_ (by rw [sz]; exact zl)
    rw [sz]
    exact newT_ep (h1 := s.heap) (tk := s.toks) J ((r1.drop (HT.sIx xs.length 0 lo)).take (HT.sIx xs.length xs.length hi - HT.sIx xs.length 0 lo)) (Nat.le_trans (cutV_length xs lo hi) zl) (q2 whole)
end
end L2

set_option maxHeartbeats 4000000
namespace Ev
open PySem PySem.Spec PyProof.Rows L2
variable [Wd]
abbrev NE := NestedKey × Addr × V
abbrev NX := NestedKey × Addr × Value
def RN (p : NE) (q : NX) : Prop := p.1 = q.1 ∧ p.2.1 = q.2.1 ∧ RelV p.2.2 q.2.2
section
variable {P : Program} {w : World} {K : PySem.W.Frag} {H : Hp} {h : Heap} {a : Addr} {o : Obj} {kvs : List NE}
theorem tupE_ok (ok : HOk P w H h) {vs : List V} (t : TupE H a vs) : ∃ its : List Value, Vals vs its ∧ IsTup h a its.toArray := by
  rcases t with ⟨ob, e, _⟩ | ⟨e, _⟩
  · obtain ⟨_, _, its, r, p⟩ := (show ObjOk P w H h a (.frz ob (.tup vs)) from ok a _ e)
    exact ⟨its, r, p⟩
  · obtain ⟨_, its, r, p⟩ := (show ObjOk P w H h a (.tup vs) from ok a _ e)
    exact ⟨its, r, p⟩
mutual
theorem nk_is (ok : HOk P w H h) : ∀ {d : D} {k : NestedKey} {v : V} {u : Value}, nkD d = some k → Is K H d v → RelV v u → NestedIs h k u
  | .non, k, v, u, e, i, r => by
    simp only [nkD] at e; cases e
    simp only [Is] at i; subst i
    cases (show u = Value.none from r)
    exact .none
  | .int n, k, v, u, e, i, r => by
    simp only [nkD] at e; cases e
    simp only [Is] at i; subst i
    obtain ⟨t, rfl⟩ := (show ∃ t, u = Value.int n t from r)
    exact .int n t
  | .str x, k, v, u, e, i, r => by
    simp only [nkD] at e; cases e
    simp only [Is] at i
    obtain ⟨rfl, _⟩ := i
    obtain ⟨t, rfl⟩ := (show ∃ t, u = Value.str x t from r)
    exact .text x t
  | .tup ds, k, v, u, e, i, r => by
    simp only [nkD, Option.map_eq_some_iff] at e
    obtain ⟨ks, e, rfl⟩ := e
    simp only [Is] at i
    obtain ⟨b, vs, rfl, t, i⟩ := i
    cases (show u = Value.ref b from r)
    obtain ⟨its, rv, ob, h1, h2, n, h3⟩ := tupE_ok ok t
    exact .tup h1 h2 h3 (by simpa using nks_is ok e i rv)
  | .bl _, k, v, u, e, i, r => by simp [nkD] at e
  | .lst _, k, v, u, e, i, r => by simp [nkD] at e
  | .dic _ _, k, v, u, e, i, r => by simp [nkD] at e
  | .dct _ _, k, v, u, e, i, r => by simp [nkD] at e
  | .ins _ _, k, v, u, e, i, r => by simp [nkD] at e
  | .lck _, k, v, u, e, i, r => by simp [nkD] at e
  | .cl _, k, v, u, e, i, r => by simp [nkD] at e
  | .xv, k, v, u, e, i, r => by simp [nkD] at e
theorem nks_is (ok : HOk P w H h) : ∀ {ds : List D} {ks : List NestedKey} {vs : List V} {us : List Value}, nksD ds = some ks → IsL K H ds vs → Vals vs us → NestedAll h ks us
  | [], ks, vs, us, e, i, r => by
    simp only [nksD] at e; cases e
    simp only [IsL] at i; subst i
    cases r
    exact .nil
  | d :: ds, ks, vs, us, e, i, r => by
    simp only [nksD] at e
    cases e1 : nkD d with
    | none => rw [e1] at e; cases e
    | some k =>
      rw [e1] at e
      simp only [Option.bind_some, Option.map_eq_some_iff] at e
      obtain ⟨ks', e2, rfl⟩ := e
      simp only [IsL] at i
      obtain ⟨v, rs, rfl, i1, i2⟩ := i
      cases r with
      | cons r1 r2 => exact .cons (nk_is ok e1 i1 r1) (nks_is ok e2 i2 r2)
end
end
def atN : List NE → NestedKey → Option (Addr × V)
  | [], _ => none
  | p :: r, k => if p.1 = k then some p.2 else atN r k
def putN (kvs : List NE) (k : NestedKey) (b : Addr) (v : V) : List NE := if (atN kvs k).isSome then kvs.map (fun x => if x.1 = k then (x.1, x.2.1, v) else x) else kvs ++ [(k, b, v)]
def dropN (kvs : List NE) (k : NestedKey) : List NE := kvs.filter fun x => decide (x.1 ≠ k)
def lookN (k : NestedKey) : List D → List D → Option D
  | j :: ks, d :: ds => if nkT j = some k then some d else lookN k ks ds
  | _, _ => none
def hasN (k : NestedKey) (ks : List D) : Bool := ks.any fun j => decide (nkT j = some k)
def putNk (y : D) (k : NestedKey) (ks : List D) : List D := if hasN k ks then ks else ks ++ [y]
def repN (k : NestedKey) (d : D) : List D → List D → List D
  | j :: ks, e :: ds => (if nkT j = some k then d else e) :: repN k d ks ds
  | _, ds => ds
def putNv (k : NestedKey) (d : D) (ks ds : List D) : List D := if hasN k ks then repN k d ks ds else ds ++ [d]
def dropNk (k : NestedKey) (ks : List D) : List D := ks.filter fun j => decide (nkT j ≠ some k)
def dropNv (k : NestedKey) : List D → List D → List D
  | j :: ks, d :: ds => if nkT j = some k then dropNv k ks ds else d :: dropNv k ks ds
  | _, _ => []
section
variable {K : PySem.W.Frag} {F : Hp}
end
end Ev

set_option maxHeartbeats 4000000
namespace Ev
open PySem PySem.Spec PyProof.Rows L2
variable [Wd]
variable {X : Cx} {c : Cp} {F G H F' G' H' : Hp} {σ : L2.St} {δ : Env} {a b e : Expr} {pos : Pos} {ta tb tc ty : Ty} {oa ob oc o : OT} {fa fb fc : Env → Option R}
theorem PE.or {t t' : TE} (h : PE X e t) (h' : PE X e t') : PE X e (fun σ H Q => t σ H Q ∨ t' σ H Q) := ⟨fun pins s σ H Q I q => by
  rcases q with q | q
  · exact h.run pins s σ H Q I q
  · exact h'.run pins s σ H Q I q⟩
def elT : OT → OT
  | .lst o => o
  | _ => .fz
def OT.isSh : OT → Bool
  | .lsh _ => true
  | _ => false
theorem OwnL.get {K : PySem.W.Frag} : ∀ {o : OT} {ds : List D} {vs : List V} {A : List Addr} {i : Nat} {d : D}, OwnL K F H o ds vs A → ds[i]? = some d → ∃ w, vs[i]? = some w ∧ ∃ B, Own K F H o d w B
  | _, [], _, _, _, _, _, e => by simp at e
  | o, d :: ds, _, _, 0, _, h, e => by
    simp only [OwnL] at h
    obtain ⟨v, r, A1, A2, rfl, h1, h2, rfl⟩ := h
    simp at e; subst e
    exact ⟨v, rfl, A1, h1⟩
  | o, d :: ds, _, _, i + 1, _, h, e => by
    simp only [OwnL] at h
    obtain ⟨v, r, A1, A2, rfl, h1, h2, rfl⟩ := h
    obtain ⟨w, e2, h3⟩ := OwnL.get (i := i) h2 (by simpa using e)
    exact ⟨w, by simpa using e2, h3⟩
theorem OwnL.length {K : PySem.W.Frag} : ∀ {o : OT} {ds : List D} {vs : List V} {A : List Addr}, OwnL K F H o ds vs A → vs.length = ds.length
  | _, [], _, _, h => by simp only [OwnL] at h; rw [h.1]; rfl
  | o, d :: ds, _, _, h => by
    simp only [OwnL] at h
    obtain ⟨v, r, A1, A2, rfl, h1, h2, rfl⟩ := h
    rw [List.length_cons, List.length_cons, OwnL.length h2]
theorem Own.lst {K : PySem.W.Frag} {ds : List D} {v : V} {A : List Addr} (h : Own K F H o (.lst ds) v A) (s : Same F H) (hsh : o.isSh = false) :
    ∃ (p : Addr) (vs : List V), v = .ref p ∧ H p = some (.lst vs) ∧ vs.length = ds.length ∧ ∀ (i : Nat) (d : D), ds[i]? = some d → ∃ w, vs[i]? = some w ∧ ∃ B, Own K F H (elT o) d w B := by
  have fz : ∀ {A}, Own K F H .fz (.lst ds) v A → ∃ (p : Addr) (vs : List V), v = .ref p ∧ H p = some (.lst vs) ∧ vs.length = ds.length ∧ ∀ (i : Nat) (d : D), ds[i]? = some d → ∃ w, vs[i]? = some w ∧ ∃ B, Own K F H .fz d w B := fun {A} h => by
    have h := h.is
    simp only [Is] at h
    obtain ⟨p, vs, e, h1, h2⟩ := h
    refine ⟨p, vs, e, s _ _ h1, h2.length, fun i d e => ?_⟩
    obtain ⟨w, e2, h3⟩ := h2.get e
    exact ⟨w, e2, [], Own.of_is h3⟩
  cases o with
  | fz => exact fz h
  | bw =>
    simp only [Own] at h
    rcases h with ⟨rfl, h⟩ | ⟨ds', p, vs, e1, e2, h1, h2, rfl⟩ | ⟨ks, ds', p, kvs, e1, _⟩ | ⟨_, _, _, _, _, e1, _⟩
    · exact fz (Own.of_is h)
    · cases e1
      refine ⟨p, vs, e2, h1, h2.length, fun i d e => ?_⟩
      obtain ⟨w, e2, h3⟩ := h2.get e
      exact ⟨w, e2, [], Own.of_is h3⟩
    · cases e1
    · cases e1
  | lst o =>
    simp only [Own] at h
    obtain ⟨p, vs, B, e, h1, h2, rfl⟩ := h
    exact ⟨p, vs, e, h1, h2.length, fun i d e => h2.get e⟩
  | dic => simp [Own] at h
  | dct => simp [Own] at h
  | ins os => simp [Own] at h
  | lsh os => cases hsh
theorem Own.tup {K : PySem.W.Frag} {ds : List D} {v : V} {A : List Addr} (h : Own K F H o (.tup ds) v A) (s : Same F H) :
    ∃ p vs, v = .ref p ∧ TupE H p vs ∧ IsL K F ds vs ∧ elT o = .fz := by
  have fz : ∀ {A}, Own K F H .fz (.tup ds) v A → ∃ p vs, v = .ref p ∧ TupE H p vs ∧ IsL K F ds vs := fun {A} h => by
    have h := h.is
    simp only [Is] at h
    obtain ⟨p, vs, e, h1, h2⟩ := h
    exact ⟨p, vs, e, h1.mono s, h2⟩
  cases o with
  | fz => obtain ⟨p, vs, e, h1, h2⟩ := fz h; exact ⟨p, vs, e, h1, h2, rfl⟩
  | bw =>
    simp only [Own] at h
    rcases h with ⟨rfl, h⟩ | ⟨ds', p, vs, e1, e2, h1, h2, rfl⟩ | ⟨ks, ds', p, kvs, e1, _⟩ | ⟨_, _, _, _, _, e1, _⟩
    · obtain ⟨p, vs, e, h1, h2⟩ := fz (Own.of_is h); exact ⟨p, vs, e, h1, h2, rfl⟩
    · cases e1
    · cases e1
    · cases e1
  | lst o => simp [Own] at h
  | dic => simp [Own] at h
  | dct => simp [Own] at h
  | ins os => simp [Own] at h
  | lsh os => simp [Own] at h
theorem Own.dict {K : PySem.W.Frag} {ks : List Key} {ds : List D} {v : V} {A : List Addr} (h : Own K F H o (.dic ks ds) v A) (s : Same F H) :
    ∃ p kvs, v = .ref p ∧ H p = some (.dK kvs) ∧ kvs.map (·.1) = ks ∧ IsL K F ds (kvs.map (·.2)) ∧ elT o = .fz := by
  have fz : ∀ {A}, Own K F H .fz (.dic ks ds) v A → ∃ p kvs, v = .ref p ∧ H p = some (.dK kvs) ∧ kvs.map (·.1) = ks ∧ IsL K F ds (kvs.map (·.2)) := fun {A} h => by
    have h := h.is
    simp only [Is] at h
    obtain ⟨p, vs, e, h1, h2, h3⟩ := h
    exact ⟨p, vs, e, s _ _ h1, h2, h3⟩
  cases o with
  | fz => obtain ⟨p, vs, e, h1, h2, h3⟩ := fz h; exact ⟨p, vs, e, h1, h2, h3, rfl⟩
  | bw =>
    simp only [Own] at h
    rcases h with ⟨rfl, h⟩ | ⟨ds', p, vs, e1, e2, h1, h2, rfl⟩ | ⟨ks, ds', p, kvs, e1, e2, h1, h2, h3, rfl⟩ | ⟨_, _, _, _, _, e1, _⟩
    · obtain ⟨p, vs, e, h1, h2, h3⟩ := fz (Own.of_is h); exact ⟨p, vs, e, h1, h2, h3, rfl⟩
    · cases e1
    · cases e1; exact ⟨p, kvs, e2, h1, h2, h3, rfl⟩
    · cases e1
  | lst o => simp [Own] at h
  | dic =>
    simp only [Own] at h
    obtain ⟨p, kvs, e2, h1, h2, h3, rfl⟩ := h
    exact ⟨p, kvs, e2, h1, h2, h3, rfl⟩
  | dct => simp [Own] at h
  | ins os => simp [Own] at h
  | lsh os => simp [Own] at h
/-- a datum that is no list, tuple, dict, instance: frozen whatever its type says -/
theorem Own.scal {K : PySem.W.Frag} {d : D} {v : V} {A : List Addr} (h : Own K F H o d v A) (hd : (match d with | .lst _ => false | .dic _ _ => false | .dct _ _ => false | .ins _ _ => false | _ => true) = true) : Is K F d v := by
  cases o with
  | fz => exact h.is
  | bw =>
    simp only [Own] at h
    rcases h with ⟨_, h⟩ | ⟨ds', p, vs, e1, e2, h1, h2, rfl⟩ | ⟨ks, ds', p, kvs, e1, e2, h1, h2, h3, rfl⟩ | ⟨_, _, _, _, _, e1, _⟩
    · exact h
    · subst e1; cases hd
    · subst e1; cases hd
    · subst e1; cases hd
  | _ => cases d <;> first | (simp [Own] at h; done) | cases hd
def keyD : D → Option Key
  | .int i => some (.inl i)
  | .str x => some (.inr x)
  | _ => none
def lookD (k : Key) : List Key → List D → Option D
  | j :: ks, d :: ds => if j = k then some d else lookD k ks ds
  | _, _ => none
def ixD (x y : D) : Option D := match x, y with
  | .lst ds, .int i => atI ds i
  | .tup ds, .int i => atI ds i
  | .str z, .int i => if z.length ≤ sizeLine then (atI z.cps.toList i).map fun q => .str ⟨#[q]⟩ else none
  | .lck ns, .int i => (atI ns i).map D.int
  | .dic ks ds, y => (keyD y).bind fun k => lookD k ks ds
  | _, _ => none
theorem atI_map {α β : Type} {xs : List α} {ys : List β} {i : Int} {x : α} (hl : ys.length = xs.length) (h : atI xs i = some x) : ∃ j : Nat, xs[j]? = some x ∧ ∀ y : β, ys[j]? = some y → atI ys i = some y := by
  unfold atI at h ⊢
  rw [hl]
  cases e : ixN xs.length i with
  | none => rw [e] at h; cases h
  | some j => rw [e] at h; exact ⟨j, h, fun y hy => hy⟩
theorem keyD_is {K : PySem.W.Frag} {d : D} {k : Key} {v : V} (e : keyD d = some k) (h : Is K H d v) : v = kV k := by
  cases d <;> simp [keyD] at e
  · subst e; simpa only [Is, kV] using h
  · subst e; simp only [Is] at h; exact h.1
theorem lookD_val {K : PySem.W.Frag} {k : Key} : ∀ {kvs : List (Key × V)} {ds : List D} {d : D}, IsL K F ds (kvs.map (·.2)) → lookD k (kvs.map (·.1)) ds = some d → ∃ v, valV kvs k = some v ∧ Is K F d v
  | [], ds, d, h, e => by cases ds <;> simp [lookD] at e
  | (j, w) :: r, [], d, h, e => by simp [lookD] at e
  | (j, w) :: r, x :: ds, d, h, e => by
    simp only [List.map_cons, IsL] at h
    obtain ⟨v, r2, e2, h1, h2⟩ := h
    cases e2
    simp only [List.map_cons, lookD] at e
    by_cases hj : j = k
    · rw [if_pos hj] at e
      cases e
      refine ⟨w, ?_, h1⟩
      unfold valV
      rw [List.find?_cons_of_pos (by simp [hj])]
      rfl
    · rw [if_neg hj] at e
      obtain ⟨v, e3, h3⟩ := lookD_val (kvs := r) h2 e
      refine ⟨v, ?_, h3⟩
      unfold valV at e3 ⊢
      rw [List.find?_cons_of_neg (by simp [hj])]
      exact e3
theorem strOk_iff {x : Str} : PyData.strOk x = true ↔ ∀ q ∈ x.cps.toList, q < 0x110000 := by
  unfold PyData.strOk
  rw [← Array.all_toList, List.all_eq_true]
  simp
theorem atI_mem {α : Type} {xs : List α} {i : Int} {x : α} (h : atI xs i = some x) : x ∈ xs := by
  unfold atI at h
  cases e : ixN xs.length i with
  | none => rw [e] at h; cases h
  | some j => rw [e] at h; exact List.mem_of_getElem? h
theorem strOk_at {z : Str} {i : Int} {q : Nat} (h : PyData.strOk z = true) (e : atI z.cps.toList i = some q) : PyData.strOk ⟨#[q]⟩ = true := by
  rw [strOk_iff] at h ⊢
  intro r hr
  have : r = q := by simpa using hr
  subst this
  exact h _ (atI_mem e)
theorem strOk_cut {z : Str} {lo hi : Option Int} (h : PyData.strOk z = true) : PyData.strOk (cutS z lo hi) = true := by
  rw [strOk_iff] at h ⊢
  intro r hr
  unfold cutS at hr
  exact h r (List.mem_of_mem_drop (List.mem_of_mem_take (by simpa using hr)))
/-- the index: not a slice, and no star -/
theorem s_ix (ha : PE X a (tV c ta fa)) (hb : PE X b (tV c tb fb)) (hta : ta = .vw o) (cb : coe tb .fz = true) (hs : PlainIx b) (hn : NoSl b) (hu : X.A.units + 1 < cLine) (hK : X.K = c.K) (hsh : o.isSh = false := by rfl) :
    PE X (.Subscript a b pos) (tV c (.vw (elT o)) fun δ => bnd (fa δ) fun x => bnd (fb δ) fun y => okO (ixD x y)) := by
  subst hta
  refine PE.imp (PE.or (pe_ix (ix_seq (X := X)) ha hb hs) (pe_dget hu ha hb hn)) fun σ H Q h => ?_
  obtain ⟨F, δ, E, h⟩ := h
  have cases2 : (∃ ks ds, fa δ = some (.ok (.dic ks ds))) ∨ ¬ ∃ ks ds, fa δ = some (.ok (.dic ks ds)) := Classical.em _
  rcases cases2 with hd | hd
  · refine .inr (tV.goW E h fun dx x F1 H1 e1 u1 E1 hx h1 => ?_)
    obtain ⟨ks, ds, e2⟩ := hd
    rw [e2] at e1; cases e1
    refine tV.goV cb E1 h1 fun dy y F2 H2 u2 E2 hy h2 => ?_
    obtain ⟨A, hx⟩ := hx
    obtain ⟨B, hy⟩ := hy
    have ex : ∃ d, ixD (.dic ks ds) dy = some d := by
      cases q : ixD (.dic ks ds) dy with
      | none => rw [q] at h2; exact h2.elim
      | some d => exact ⟨d, rfl⟩
    obtain ⟨d, e3⟩ := ex
    rw [e3] at h2
    obtain ⟨p, kvs, rfl, hp, rfl, hl, et⟩ := (hx.up u2).dict u2.fh
    cases e4 : keyD dy with
    | none => simp [ixD, e4] at e3
    | some k =>
      simp [ixD, e4] at e3
      obtain ⟨v, hv, hi⟩ := lookD_val hl e3
      have hy2 := keyD_is e4 hy.is
      subst hy2
      refine ⟨p, v, rfl, ?_, h2 v F2 H2 (Up.refl u2.fh) ⟨[], ?_⟩⟩
      · rw [← hv]; exact DGet.k hp
      · rw [et]; exact Own.of_is hi
  · refine .inl (tV.goW E h fun dx x F1 H1 e1 u1 E1 hx h1 => ?_)
    refine tV.goV cb E1 h1 fun dy y F2 H2 u2 E2 hy h2 => ?_
    obtain ⟨A, hx⟩ := hx
    obtain ⟨B, hy⟩ := hy
    have hx2 := hx.up u2
    have ex : ∃ d, ixD dx dy = some d := by
      cases q : ixD dx dy with
      | none => rw [q] at h2; exact h2.elim
      | some d => exact ⟨d, rfl⟩
    obtain ⟨d, e3⟩ := ex
    rw [e3] at h2
    have fin : ∀ v, (∃ C, Own c.K F2 H2 (elT o) d v C) → Q v H2 := fun v q => h2 v F2 H2 (Up.refl u2.fh) q
    have yi : ∀ i, dy = .int i → y = .int i := fun i e => by
      subst e
      have q := hy.is
      simpa only [Is] using q
    cases dx with
    | lst ds =>
      cases dy with
      | int i =>
        simp only [ixD] at e3
        obtain ⟨p, vs, rfl, hp, hl, hg⟩ := hx2.lst u2.fh hsh
        obtain ⟨j, hj, hj2⟩ := atI_map hl e3
        obtain ⟨w, hw, hB⟩ := hg j d hj
        exact .inl ⟨p, vs, i, w, rfl, yi i rfl, SqL.of hp, hj2 w hw, fin w hB⟩
      | _ => simp [ixD] at e3
    | tup ds =>
      cases dy with
      | int i =>
        simp only [ixD] at e3
        obtain ⟨p, vs, rfl, hp, hl, et⟩ := hx2.tup u2.fh
        obtain ⟨j, hj, hj2⟩ := atI_map hl.length e3
        obtain ⟨w, hw, hB⟩ := hl.get hj
        exact .inr (.inl ⟨p, vs, i, w, rfl, yi i rfl, hp.sq, hj2 w hw, fin w ⟨[], by rw [et]; exact Own.of_is hB⟩⟩)
      | _ => simp [ixD] at e3
    | str z =>
      cases dy with
      | int i =>
        simp only [ixD] at e3
        by_cases hz : z.length ≤ sizeLine
        · rw [if_pos hz] at e3
          cases e4 : atI z.cps.toList i with
          | none => rw [e4] at e3; cases e3
          | some q =>
            rw [e4] at e3
            cases e3
            have q1 := hx2.scal rfl
            simp only [Is] at q1
            have et : elT o = .fz := by cases o <;> first | rfl | (simp [Own] at hx2; done)
            exact .inr (.inr ⟨z, i, q, q1.1, yi i rfl, hz, e4, fin _ ⟨[], by rw [et]; exact Own.of_is (Is.str (strOk_at q1.2 e4))⟩⟩)
        · rw [if_neg hz] at e3; cases e3
      | _ => simp [ixD] at e3
    | lck ns =>
      cases dy with
      | int i =>
        simp only [ixD] at e3
        cases e4 : atI ns i with
        | none => rw [e4] at e3; cases e3
        | some q =>
          rw [e4] at e3
          cases e3
          have q1 := hx2.scal rfl
          simp only [Is] at q1
          obtain ⟨p, rfl, hp⟩ := q1
          have et : elT o = .fz := by cases o <;> first | rfl | (simp [Own] at hx2; done)
          obtain ⟨j, hj, hj2⟩ := atI_map (ys := ns.map V.int) (by simp) e4
          exact .inl ⟨p, ns.map V.int, i, .int q, rfl, yi i rfl, hK ▸ u2.fh.seq hp, hj2 _ (by rw [List.getElem?_map, hj]; rfl), fin _ ⟨[], by rw [et]; exact Own.of_is (by simp only [Is])⟩⟩
      | _ => simp [ixD] at e3
    | dic ks ds => exact (hd ⟨ks, ds, e1⟩).elim
    | _ => simp [ixD] at e3
def cutG {α : Type} (xs : List α) (lo hi : Option Int) : List α := (xs.drop (HT.sIx xs.length 0 lo)).take (HT.sIx xs.length xs.length hi - HT.sIx xs.length 0 lo)
theorem cutG_is {K : PySem.W.Frag} {ds : List D} {vs : List V} {lo hi : Option Int} (h : IsL K F ds vs) : IsL K F (cutG ds lo hi) (cutV vs lo hi) := by
  unfold cutG cutV
  rw [h.length]
  exact (h.drop _).take _
def slD (x : D) (lo hi : Option Int) : Option D := match x with
  | .lst ds => some (.lst (cutG ds lo hi))
  | .tup ds => some (.tup (cutG ds lo hi))
  | .str z => if z.length ≤ sizeLine then some (.str (cutS z lo hi)) else none
  | _ => none
/-- a part of a slice -/
def evP (f : Option (Env → Option R)) (δ : Env) (k : Option Int → Option R) : Option R := match f with
  | none => k none
  | some f => bnd (f δ) fun d => match d with
    | .int i => k (some i)
    | _ => none
def tP (c : Cp) : Option (Ty × (Env → Option R)) → TO
  | none => tNoPart
  | some (ty, f) => tPart (tV c ty f)
theorem tP.go {p : Option (Ty × (Env → Option R))} {Q1 : Option Int → Hp → Prop} {Q : VK} {k : Option Int → Option R} (hp : ∀ q, p = some q → Ev.coe q.1 .fz = true) (E : c.E F H σ δ) (h : Gv c ty F H σ Q (evP (p.map (·.2)) δ k))
    (hk : ∀ i F1 H1, Up F H F1 H1 → c.E F1 H1 σ δ → Gv c ty F1 H1 σ Q (k i) → Q1 i H1) : tP c p σ H Q1 := by
  cases p with
  | none => exact hk none F H (Up.refl E.fh) E h
  | some q =>
    obtain ⟨ty, f⟩ := q
    refine tV.goV (hp _ rfl) E h fun d x F1 H1 u1 E1 hx h1 => ?_
    obtain ⟨A, hx⟩ := hx
    cases d with
    | int i =>
      have q := hx.is
      simp only [Is] at q
      exact ⟨i, q, hk (some i) F1 H1 u1 E1 h1⟩
    | _ => exact h1.elim
def elO : OT → Bool
  | .lst .fz => true
  | .lst _ => false
  | .ins _ => false
  | .lsh _ => false
  | _ => true
/-- a list by its items, all frozen -/
theorem Own.lstF {K : PySem.W.Frag} {ds : List D} {v : V} {A : List Addr} (ho : elO o = true) (h : Own K F H o (.lst ds) v A) (s : Same F H) : ∃ p vs, v = .ref p ∧ H p = some (.lst vs) ∧ IsL K F ds vs := by
  cases o with
  | fz =>
    have h := h.is
    simp only [Is] at h
    obtain ⟨p, vs, e, h1, h2⟩ := h
    exact ⟨p, vs, e, s _ _ h1, h2⟩
  | bw =>
    simp only [Own] at h
    rcases h with ⟨_, h⟩ | ⟨ds', p, vs, e1, e2, h1, h2, rfl⟩ | ⟨ks, ds', p, kvs, e1, _⟩ | ⟨_, _, _, _, _, e1, _⟩
    · simp only [Is] at h
      obtain ⟨p, vs, e, h1, h2⟩ := h
      exact ⟨p, vs, e, s _ _ h1, h2⟩
    · cases e1
      exact ⟨p, vs, e2, h1, h2⟩
    · cases e1
    · cases e1
  | lst o =>
    cases o with
    | fz =>
      simp only [Own] at h
      obtain ⟨p, vs, B, e, h1, h2, rfl⟩ := h
      exact ⟨p, vs, e, h1, h2.fz.2⟩
    | _ => cases ho
  | dic => simp [Own] at h
  | dct => simp [Own] at h
  | ins os => cases ho
  | lsh os => cases ho
theorem PO_of {e : Option Expr} {p : Option (Ty × (Env → Option R))} (h : match e, p with
    | none, none => True
    | some e, some (ty, f) => PE X e (tV c ty f)
    | _, _ => False) : PO X e (tP c p) := by
  cases e with
  | none =>
    cases p with
    | none => exact po_none
    | some q => exact h.elim
  | some e =>
    cases p with
    | none => exact h.elim
    | some q => exact po_some h
theorem s_sl {lo hi : Option Expr} {p2 : Pos} {pl pu : Option (Ty × (Env → Option R))} (ha : PE X a (tV c ta fa)) (hl : PO X lo (tP c pl)) (hu : PO X hi (tP c pu)) (hta : ta = .vw o) (ho : elO o = true)
    (cl : ∀ q, pl = some q → Ev.coe q.1 .fz = true) (cu : ∀ q, pu = some q → Ev.coe q.1 .fz = true) :
    PE X (.Subscript a (.Slice lo hi none p2) pos) (tV c (.vw .fz) fun δ => bnd (fa δ) fun x => evP (pl.map (·.2)) δ fun l => evP (pu.map (·.2)) δ fun u => okO (slD x l u)) := by
  subst hta
  refine PE.imp (pe_slice (sl_list.or (sl_tupX.or sl_str)) ha hl hu) fun σ H Q h => ?_
  obtain ⟨F, δ, E, h⟩ := h
  refine tV.goW E h fun dx x F1 H1 e1 u1 E1 hx h1 => ?_
  refine tP.go cl E1 h1 fun l F2 H2 u2 E2 h2 => ?_
  refine tP.go cu E2 h2 fun r F3 H3 u3 E3 h3 => ?_
  obtain ⟨A, hx⟩ := hx
  have hx2 := hx.up (u2.trans u3)
  obtain ⟨d, e3, q⟩ := h3.okO
  cases dx with
  | lst ds =>
    cases e3
    obtain ⟨p, vs, rfl, hp, hi⟩ := hx2.lstF ho u3.fh
    refine .inl ⟨p, vs, rfl, SqL.of hp, fun z hz => q _ _ _ (Up.newF u3.fh hz) ?_⟩
    simp only [Is]
    exact ⟨z, _, rfl, upd_same, (cutG_is hi).mono (Up.newF (o := .lst (cutV vs l r)) u3.fh hz).ff⟩
  | tup ds =>
    cases e3
    obtain ⟨p, vs, rfl, hp, hi, et⟩ := hx2.tup u3.fh
    refine .inr (.inl ⟨p, vs, rfl, hp.sq, fun hw => ?_, fun hw z ob hz hob => q _ _ _ (Up.newF u3.fh hz) ?_⟩)
    · have ef : Is c.K F3 (.tup ds) (.ref p) := by
        cases o with
        | fz => exact hx2.is
        | bw =>
          simp only [Own] at hx2
          rcases hx2 with ⟨_, h⟩ | ⟨ds', p, vs, e1, _⟩ | ⟨ks, ds', p, kvs, e1, _⟩ | ⟨_, _, _, _, _, e1, _⟩
          · exact h
          · cases e1
          · cases e1
          · cases e1
        | _ => simp [Own] at hx2
      refine q _ F3 H3 (Up.refl u3.fh) ?_
      have e4 : cutG ds l r = ds := by
        unfold cutG
        rw [← hi.length, hw.1, hw.2, List.drop_zero, hi.length]
        simp
      rw [e4]; exact ef
    · simp only [Is]
      exact ⟨z, _, rfl, .inl ⟨ob, upd_same, hob⟩, (cutG_is hi).mono (Up.newF (o := .frz ob (.tup (cutV vs l r))) u3.fh hz).ff⟩
  | str z =>
    simp only [slD] at e3
    by_cases hz : z.length ≤ sizeLine
    · rw [if_pos hz] at e3
      cases e3
      have q1 := hx2.scal rfl
      simp only [Is] at q1
      exact .inr (.inr ⟨z, q1.1, hz, q _ F3 H3 (Up.refl u3.fh) (Is.str (strOk_cut q1.2))⟩)
    · rw [if_neg hz] at e3; cases e3
  | _ => simp [slD] at e3
def consL (r : Option R) (k : Option RL) : Option RL := match r with
  | some (.ok d) => (match k with
    | some (.ok ds) => some (.ok (d :: ds))
    | k => k)
  | some (.ex x) => some (.ex x)
  | none => none
theorem a_nil : PA X [] (tL c [] fun _ => some (.ok [])) := by
  refine PA.imp pa_nil fun σ H Q h => ?_
  obtain ⟨F, δ, E, h⟩ := h
  exact h [] F H (Up.refl E.fh) (by simp only [ViewL])
theorem a_cons {es : List Expr} {os : List OT} {fs : Env → Option RL} (he : PE X e (tV c ta fa)) (hr : PA X es (tL c os fs)) (ca : coe ta o = true) (hs : starEach (e :: es) X.env = (false, eval e X.env) :: starEach es X.env) :
    PA X (e :: es) (tL c (o :: os) fun δ => consL (fa δ) (fs δ)) := by
  refine PA.imp (pa_cons he hr hs) fun σ H Q h => ?_
  obtain ⟨F, δ, E, h⟩ := h
  change Gl' c (o :: os) F H σ Q (consL (fa δ) (fs δ)) at h
  refine ⟨F, δ, E, ?_⟩
  cases e1 : fa δ with
  | none => rw [e1] at h; exact h
  | some r =>
    rw [e1] at h
    cases r with
    | ex x => exact h
    | ok d =>
      intro v F1 H1 u p
      obtain ⟨F2, u2, s2, A, ow⟩ := p.coe u ca
      refine ⟨F2, δ, E.up u2, ?_⟩
      cases e2 : fs δ with
      | none => rw [e2] at h; exact h
      | some r =>
        rw [e2] at h
        cases r with
        | ex x => exact Bad.up h u2
        | ok ds =>
          intro vs F3 H3 u3 w
          refine h (v :: vs) F3 H3 (u2.trans u3) ?_
          simp only [ViewL]
          exact ⟨v, vs, rfl, ⟨A, ow.up u3⟩, w⟩
theorem ViewL.isL {K : PySem.W.Frag} : ∀ {os : List OT} {ds : List D} {vs : List V}, (∀ o ∈ os, o = .fz) → ViewL K F H os ds vs → IsL K F ds vs ∧ ds.length = os.length
  | [], [], _, _, h => ⟨h, rfl⟩
  | o :: os, d :: ds, _, k, h => by
    simp only [ViewL] at h
    obtain ⟨v, r, rfl, ⟨A, h1⟩, h2⟩ := h
    obtain ⟨h3, h4⟩ := ViewL.isL (fun o ho => k o (by simp [ho])) h2
    have e := k o (by simp)
    subst e
    exact ⟨⟨v, r, rfl, h1.is, h3⟩, by simp [h4]⟩
  | [], _ :: _, _, _, h => by simp [ViewL] at h
  | _ :: _, [], _, _, h => by simp [ViewL] at h
/-- the arguments ahead of the rest -/
theorem tL.go {os : List OT} {fs : Env → Option RL} {Q1 : List V → Hp → Prop} {Gd : Hp → Hp → Option R → Prop} {k : List D → Option R} (E : c.E F H σ δ)
    (hb : ∀ x, Gd F H (some (.ex x)) → Bad c F H σ x) (hn : ¬ Gd F H none) (hup : ∀ r F1 H1, Gd F H r → Up F H F1 H1 → Gd F1 H1 r) (h : Gd F H (bndL (fs δ) k))
    (hk : ∀ ds vs F1 H1, Up F H F1 H1 → c.E F1 H1 σ δ → ViewL c.K F1 H1 os ds vs → Gd F1 H1 (k ds) → Q1 vs H1) : tL c os fs σ H Q1 := by
  refine ⟨F, δ, E, ?_⟩
  cases e : fs δ with
  | none => rw [e] at h; exact (hn h).elim
  | some r =>
    rw [e] at h
    cases r with
    | ex x => exact hb x h
    | ok ds => exact fun vs F1 H1 u w => hk ds vs F1 H1 u (E.up u) w (hup _ _ _ h u)
theorem tL.goV {os : List OT} {fs : Env → Option RL} {Q1 : List V → Hp → Prop} {Q : VK} {k : List D → Option R} (E : c.E F H σ δ) (h : Gv c ty F H σ Q (bndL (fs δ) k))
    (hk : ∀ ds vs F1 H1, Up F H F1 H1 → c.E F1 H1 σ δ → ViewL c.K F1 H1 os ds vs → Gv c ty F1 H1 σ Q (k ds) → Q1 vs H1) : tL c os fs σ H Q1 :=
  tL.go (Gd := fun F H r => Gv c ty F H σ Q r) E (fun _ h => h) (fun h => h) (fun _ _ _ g u => g.up u) h hk
theorem s_tup {es : List Expr} {k : Nat} {os : List OT} {fs : Env → Option RL} (he : PA X es (tL c os fs)) (hf : ∀ o ∈ os, o = .fz) (hl : os.length ≤ 1000) :
    PE X (.Tuple es k pos) (tV c (.vw .fz) fun δ => bndL (fs δ) fun ds => some (.ok (.tup ds))) := by
  refine PE.imp (pe_tupX he) fun σ H Q h => ?_
  obtain ⟨F, δ, E, h⟩ := h
  refine tL.goV E h fun ds vs F1 H1 u1 E1 w h1 => ?_
  obtain ⟨w1, w2⟩ := w.isL hf
  refine ⟨by rw [w1.length, w2]; exact Nat.le_trans hl (by decide), fun p ob hp hob => h1 _ _ _ (Up.newF u1.fh hp) ⟨[], Own.of_is ?_⟩⟩
  simp only [Is]
  exact ⟨p, vs, rfl, .inl ⟨ob, upd_same, hob⟩, w1.mono (Up.newF (o := .frz ob (.tup vs)) u1.fh hp).ff⟩
theorem s_lst {es : List Expr} {os : List OT} {fs : Env → Option RL} (he : PA X es (tL c os fs)) (hf : ∀ o ∈ os, o = .fz) (hl : os.length ≤ 1000) :
    PE X (.List es pos) (tV c (.fr (.lst .fz)) fun δ => bndL (fs δ) fun ds => some (.ok (.lst ds))) := by
  refine PE.imp (pe_lst he) fun σ H Q h => ?_
  obtain ⟨F, δ, E, h⟩ := h
  refine tL.goV E h fun ds vs F1 H1 u1 E1 w h1 => ?_
  obtain ⟨w1, w2⟩ := w.isL hf
  refine ⟨by rw [w1.length, w2]; exact Nat.le_trans hl (by decide), fun p hp => h1 _ _ _ (Up.new u1.fh hp) ⟨[p], ?_, by simp, fun a ha => ?_⟩⟩
  · simp only [Own]
    exact ⟨p, vs, [], rfl, upd_same, OwnL.of_fz w1, rfl⟩
  · have e : a = p := by simpa using ha
    subst e
    refine ⟨hp, ?_⟩
    cases q : F1 a with
    | none => rfl
    | some u => rw [u1.fh _ _ q] at hp; cases hp
end Ev

set_option maxHeartbeats 4000000
namespace Ev
open PySem PySem.Spec PyProof.Rows L2
variable [Wd]
variable {X : Cx} {c : Cp} {F G H F' G' H' : Hp} {σ : L2.St} {δ : Env} {a b e : Expr} {pos : Pos} {ta tb tc ty : Ty} {oa ob oc o : OT} {fa fb fc : Env → Option R}
mutual
def eqB : D → D → Bool
  | .non, .non => true
  | .bl a, .bl b => a == b
  | .bl a, .int j => decide ((if a then 1 else 0) = j)
  | .int i, .bl b => decide (i = if b then 1 else 0)
  | .int i, .int j => decide (i = j)
  | .str x, .str y => decide (x = y)
  | .tup xs, .tup ys => eqBs xs ys
  | .lst xs, .lst ys => eqBs xs ys
  | _, _ => false
def eqBs : List D → List D → Bool
  | [], [] => true
  | x :: xs, y :: ys => eqB x y && eqBs xs ys
  | _, _ => false
end
mutual
/-- data that == may meet: nested below n -/
def okD : Nat → D → Bool
  | _, .non => true
  | _, .bl _ => true
  | _, .int _ => true
  | _, .str _ => true
  | n + 1, .tup xs => okDs n xs
  | n + 1, .lst xs => okDs n xs
  | _, _ => false
def okDs : Nat → List D → Bool
  | _, [] => true
  | n, x :: xs => okD n x && okDs n xs
end
mutual
def pyOf : D → PyData
  | .bl b => .bool b
  | .int i => .int i
  | .str x => .str x
  | .tup xs => .tuple (pyOfs xs)
  | .lst xs => .list (pyOfs xs)
  | _ => .none
def pyOfs : List D → List PyData
  | [] => []
  | x :: xs => pyOf x :: pyOfs xs
end
mutual
theorem pyOf_ok {K : PySem.W.Frag} : ∀ {d : D} {n : Nat} {v : V}, okD n d = true → Is K H d v → Dp K H v (pyOf d) ∧ (pyOf d).canLay0 = true ∧ (pyOf d).depth ≤ n
  | .non, n, v, _, h => by simp only [Is] at h; subst h; exact ⟨.non, by simp [pyOf, PyData.canLay0], by simp [pyOf, PyData.depth]⟩
  | .bl b, n, v, _, h => by simp only [Is] at h; subst h; exact ⟨.bl b, by simp [pyOf, PyData.canLay0], by simp [pyOf, PyData.depth]⟩
  | .int i, n, v, _, h => by simp only [Is] at h; subst h; exact ⟨.int i, by simp [pyOf, PyData.canLay0], by simp [pyOf, PyData.depth]⟩
  | .str x, n, v, _, h => by
    simp only [Is] at h
    obtain ⟨rfl, h⟩ := h
    exact ⟨.str x, by simp [pyOf, PyData.canLay0, h], by simp [pyOf, PyData.depth]⟩
  | .tup xs, 0, v, e, h => by simp [okD] at e
  | .tup xs, n + 1, v, e, h => by
    simp only [okD] at e
    simp only [Is] at h
    obtain ⟨p, vs, rfl, hp, hi⟩ := h
    obtain ⟨h1, h2, h3⟩ := pyOfs_ok e hi
    exact ⟨.tup hp.sq h1, by simp only [pyOf, PyData.canLay0]; exact h2, by simp only [pyOf, PyData.depth]; omega⟩
  | .lst xs, 0, v, e, h => by simp [okD] at e
  | .lst xs, n + 1, v, e, h => by
    simp only [okD] at e
    simp only [Is] at h
    obtain ⟨p, vs, rfl, hp, hi⟩ := h
    obtain ⟨h1, h2, h3⟩ := pyOfs_ok e hi
    exact ⟨.lst (SqL.of hp) h1, by simp only [pyOf, PyData.canLay0]; exact h2, by simp only [pyOf, PyData.depth]; omega⟩
  | .dic _ _, _, _, e, _ => by simp [okD] at e
  | .ins _ _, _, _, e, _ => by simp [okD] at e
  | .lck _, _, _, e, _ => by simp [okD] at e
  | .cl _, _, _, e, _ => by simp [okD] at e
  | .xv, _, _, e, _ => by simp [okD] at e
theorem pyOfs_ok {K : PySem.W.Frag} : ∀ {ds : List D} {n : Nat} {vs : List V}, okDs n ds = true → IsL K H ds vs → DpAll K H vs (pyOfs ds) ∧ PyData.canLayAll0 (pyOfs ds) = true ∧ PyData.depthAll (pyOfs ds) ≤ n
  | [], n, vs, _, h => by simp only [IsL] at h; subst h; exact ⟨.nil, by simp [pyOfs, PyData.canLayAll0], by simp [pyOfs, PyData.depthAll]⟩
  | d :: ds, n, vs, e, h => by
    simp only [okDs, Bool.and_eq_true] at e
    simp only [IsL] at h
    obtain ⟨v, r, rfl, h1, h2⟩ := h
    obtain ⟨a1, a2, a3⟩ := pyOf_ok e.1 h1
    obtain ⟨b1, b2, b3⟩ := pyOfs_ok e.2 h2
    exact ⟨.cons a1 b1, by simp [pyOfs, PyData.canLayAll0, a2, b2], by simp only [pyOfs, PyData.depthAll]; omega⟩
end
mutual
theorem eqB_py : ∀ {x y : D} {n m : Nat}, okD n x = true → okD m y = true → PyData.eqv (pyOf x) (pyOf y) = eqB x y
  | .non, y, n, m, _, k => by cases y <;> first | (simp [pyOf, PyData.eqv, eqB]; done) | (cases m <;> simp [okD] at k; done)
  | .bl a, y, n, m, _, k => by
    cases y <;> first
      | (simp only [pyOf, PyData.eqv, eqB]; done)
      | (simp [pyOf, PyData.eqv, eqB, Bool.beq_eq_decide_eq]; done)
      | (cases m <;> simp [okD] at k; done)
  | .int a, y, n, m, _, k => by
    cases y <;> first
      | (simp only [pyOf, PyData.eqv, eqB]; done)
      | (simp [pyOf, PyData.eqv, eqB, Bool.beq_eq_decide_eq]; done)
      | (cases m <;> simp [okD] at k; done)
  | .str a, y, n, m, _, k => by
    cases y <;> first
      | (simp only [pyOf, PyData.eqv, eqB]; done)
      | (simp [pyOf, PyData.eqv, eqB, Bool.beq_eq_decide_eq]; done)
      | (cases m <;> simp [okD] at k; done)
      | (simp only [pyOf, PyData.eqv, eqB]; rw [Bool.eq_iff_iff]; simp)
  | .tup xs, y, n, m, h, k => by
    cases n with
    | zero => simp [okD] at h
    | succ n =>
      simp only [okD] at h
      cases y <;> first
        | (cases m with
          | zero => simp [okD] at k; done
          | succ m =>
            simp only [okD] at k
            simp only [pyOf, PyData.eqv, eqB]
            exact eqBs_py h k)
        | (simp only [pyOf, PyData.eqv, eqB]; done)
        | (cases m <;> simp [okD] at k; done)
        | (cases m <;> (simp only [pyOf, PyData.eqv, eqB]; done))
  | .lst xs, y, n, m, h, k => by
    cases n with
    | zero => simp [okD] at h
    | succ n =>
      simp only [okD] at h
      cases y <;> first
        | (cases m with
          | zero => simp [okD] at k; done
          | succ m =>
            simp only [okD] at k
            simp only [pyOf, PyData.eqv, eqB]
            exact eqBs_py h k)
        | (simp only [pyOf, PyData.eqv, eqB]; done)
        | (cases m <;> simp [okD] at k; done)
        | (cases m <;> (simp only [pyOf, PyData.eqv, eqB]; done))
  | .dic _ _, _, n, _, h, _ => by cases n <;> simp [okD] at h
  | .ins _ _, _, n, _, h, _ => by cases n <;> simp [okD] at h
  | .lck _, _, n, _, h, _ => by cases n <;> simp [okD] at h
  | .cl _, _, n, _, h, _ => by cases n <;> simp [okD] at h
  | .xv, _, n, _, h, _ => by cases n <;> simp [okD] at h
theorem eqBs_py : ∀ {xs ys : List D} {n m : Nat}, okDs n xs = true → okDs m ys = true → PyData.eqvAll (pyOfs xs) (pyOfs ys) = eqBs xs ys
  | [], [], _, _, _, _ => by simp [pyOfs, PyData.eqvAll, eqBs]
  | [], _ :: _, _, _, _, _ => by simp [pyOfs, PyData.eqvAll, eqBs]
  | _ :: _, [], _, _, _, _ => by simp [pyOfs, PyData.eqvAll, eqBs]
  | x :: xs, y :: ys, n, m, h, k => by
    simp only [okDs, Bool.and_eq_true] at h k
    simp only [pyOfs, PyData.eqvAll, eqBs]
    rw [eqB_py h.1 k.1, eqBs_py h.2 k.2]
end
def eqD (x y : D) : Option Bool := if okD 60 x && okD 60 y then some (eqB x y) else none
theorem shaped_of {d : D} {v : V} {K : PySem.W.Frag} (e : okD 60 d = true) (h : Is K H d v) : Dp K H v (pyOf d) ∧ SeqAt.shaped (pyOf d) = true := by
  obtain ⟨h1, h2, h3⟩ := pyOf_ok e h
  refine ⟨h1, ?_⟩
  unfold SeqAt.shaped
  rw [h2]
  simp only [Bool.true_and, decide_eq_true_eq]
  omega
theorem o_eq (hu : X.A.units + 64 < cLine) (hK : X.K = c.K) : OpS X c (compareOp .Eq) .bw .bw fun x y => (eqD x y).map D.bl := by
  refine ⟨_, op_eqD hu, fun F H x y dx dy d A B Q s hx hy e q => ?_⟩
  change (eqD dx dy).map D.bl = some d at e
  unfold eqD at e
  by_cases g : (okD 60 dx && okD 60 dy) = true
  · rw [if_pos g] at e
    cases e
    obtain ⟨g1, g2⟩ := Bool.and_eq_true_iff.mp g
    obtain ⟨a1, a2⟩ := shaped_of g1 (hx.see s)
    obtain ⟨b1, b2⟩ := shaped_of g2 (hy.see s)
    refine ⟨_, _, hK ▸ a1, hK ▸ b1, a2, b2, q _ F H (Up.refl s) ?_⟩
    rw [eqB_py g1 g2]
    simp only [Is]
  · rw [if_neg g] at e; cases e
theorem o_ne (hu : X.A.units + 64 < cLine) (hK : X.K = c.K) : OpS X c (compareOp .NotEq) .bw .bw fun x y => ((eqD x y).map (!·)).map D.bl := by
  refine ⟨_, op_neD hu, fun F H x y dx dy d A B Q s hx hy e q => ?_⟩
  change ((eqD dx dy).map (!·)).map D.bl = some d at e
  unfold eqD at e
  by_cases g : (okD 60 dx && okD 60 dy) = true
  · rw [if_pos g] at e
    cases e
    obtain ⟨g1, g2⟩ := Bool.and_eq_true_iff.mp g
    obtain ⟨a1, a2⟩ := shaped_of g1 (hx.see s)
    obtain ⟨b1, b2⟩ := shaped_of g2 (hy.see s)
    refine ⟨_, _, hK ▸ a1, hK ▸ b1, a2, b2, q _ F H (Up.refl s) ?_⟩
    rw [eqB_py g1 g2]
    simp only [Is]
  · rw [if_neg g] at e; cases e
theorem Own.int {K : PySem.W.Frag} {i : Int} {v : V} {A : List Addr} (h : Own K F H .bw (.int i) v A) : v = .int i := by
  have q := h.scal rfl
  simpa only [Is] using q
theorem Own.strV {K : PySem.W.Frag} {x : Str} {v : V} {A : List Addr} (h : Own K F H .bw (.str x) v A) : v = .str x ∧ PyData.strOk x = true := by
  have q := h.scal rfl
  simpa only [Is] using q
theorem strOk_app {x y : Str} (h : PyData.strOk x = true) (k : PyData.strOk y = true) : PyData.strOk (x ++ y) = true := by
  rw [strOk_iff] at h k ⊢
  intro q hq
  have e : (x ++ y).cps.toList = x.cps.toList ++ y.cps.toList := by
    show (x.cps ++ y.cps).toList = _
    simp
  rw [e] at hq
  rcases List.mem_append.mp hq with z | z
  · exact h q z
  · exact k q z
def addD (x y : D) : Option D := match x, y with
  | .int i, .int j => some (.int (i + j))
  | .str x, .str y => if x.length + y.length ≤ sizeLine then some (.str (x ++ y)) else none
  | .lst xs, .lst ys => if xs.length + ys.length ≤ sizeLine then some (.lst (xs ++ ys)) else none
  | .tup xs, .tup ys => if xs.length + ys.length ≤ sizeLine then some (.tup (xs ++ ys)) else none
  | _, _ => none
theorem Own.tupIs {K : PySem.W.Frag} {ds : List D} {v : V} {A : List Addr} (h : Own K F H .bw (.tup ds) v A) : Is K F (.tup ds) v := h.scal rfl
theorem o_add : OpS X c (binaryOp .Add) .bw .bw addD := by
  refine ⟨_, op_add.or (op_add_str.or (op_cat.or op_catX)), fun F H x y dx dy d A B Q s hx hy e q => ?_⟩
  cases dx with
  | int i =>
    cases dy with
    | int j =>
      cases e
      exact .inl ⟨i, j, hx.int, hy.int, q _ F H (Up.refl s) (by simp only [Is])⟩
    | _ => simp [addD] at e
  | str z =>
    cases dy with
    | str w =>
      simp only [addD] at e
      by_cases g : z.length + w.length ≤ sizeLine
      · rw [if_pos g] at e
        cases e
        exact .inr (.inl ⟨z, w, hx.strV.1, hy.strV.1, g, q _ F H (Up.refl s) (Is.str (strOk_app hx.strV.2 hy.strV.2))⟩)
      · rw [if_neg g] at e; cases e
    | _ => simp [addD] at e
  | lst xs =>
    cases dy with
    | lst ys =>
      simp only [addD] at e
      by_cases g : xs.length + ys.length ≤ sizeLine
      · rw [if_pos g] at e
        cases e
        obtain ⟨p, vs, rfl, hp, hi⟩ := hx.lstF rfl s
        obtain ⟨p', ws, rfl, hp', hi'⟩ := hy.lstF rfl s
        refine .inr (.inr (.inl ⟨p, p', vs, ws, rfl, rfl, hp, hp', by rw [hi.length, hi'.length]; exact g, fun l hl => q _ _ _ (Up.newF s hl) ?_⟩))
        simp only [Is]
        exact ⟨l, _, rfl, upd_same, (hi.append hi').mono (Up.newF (o := .lst (vs ++ ws)) s hl).ff⟩
      · rw [if_neg g] at e; cases e
    | _ => simp [addD] at e
  | tup xs =>
    cases dy with
    | tup ys =>
      simp only [addD] at e
      by_cases g : xs.length + ys.length ≤ sizeLine
      · rw [if_pos g] at e
        cases e
        obtain ⟨p, vs, rfl, hp, hi, _⟩ := hx.tup s
        obtain ⟨p', ws, rfl, hp', hi', _⟩ := hy.tup s
        refine .inr (.inr (.inr ⟨p, p', vs, ws, rfl, rfl, hp.sq, hp'.sq, by rw [hi.length, hi'.length]; exact g, fun z => ?_, fun _ z => ?_, fun _ _ l ob hl hob => q _ _ _ (Up.newF s hl) ?_⟩))
        · refine q _ F H (Up.refl s) ?_
          have : xs = [] := by
            have := hi.length; rw [z] at this
            exact List.length_eq_zero_iff.mp this.symm
          rw [this]; exact hy.tupIs
        · refine q _ F H (Up.refl s) ?_
          have : ys = [] := by
            have := hi'.length; rw [z] at this
            exact List.length_eq_zero_iff.mp this.symm
          rw [this, List.append_nil]; exact hx.tupIs
        · simp only [Is]
          exact ⟨l, _, rfl, .inl ⟨ob, upd_same, hob⟩, (hi.append hi').mono (Up.newF (o := .frz ob (.tup (vs ++ ws))) s hl).ff⟩
      · rw [if_neg g] at e; cases e
    | _ => simp [addD] at e
  | _ => simp [addD] at e
def subD (x y : D) : Option D := match x, y with
  | .int i, .int j => some (.int (i - j))
  | _, _ => none
theorem o_sub : OpS X c (binaryOp .Sub) .bw .bw subD := by
  refine ⟨_, op_sub, fun F H x y dx dy d A B Q s hx hy e q => ?_⟩
  cases dx with
  | int i =>
    cases dy with
    | int j =>
      cases e
      exact ⟨i, j, hx.int, hy.int, q _ F H (Up.refl s) (by simp only [Is])⟩
    | _ => simp [subD] at e
  | _ => simp [subD] at e
def smallI (i : Int) : Bool := decide (-(2 ^ 64) < i ∧ i < 2 ^ 64)
def mulD (x y : D) : Option D := match x, y with
  | .int i, .int j => if smallI i || smallI j then some (.int (i * j)) else none
  | .str x, .int j => if decide (0 ≤ j) && decide (j ≤ 1000) && decide (x.length ≤ 1000) then some (.str (Txt.mul x j)) else none
  | .lst xs, .int j => if decide (0 ≤ j) && decide (j ≤ 1000) && decide (xs.length ≤ 1000) then some (.lst (List.replicate j.toNat xs).flatten) else none
  | _, _ => none
theorem IsL.rep {K : PySem.W.Frag} {F : Hp} {ds : List D} {vs : List V} (h : IsL K F ds vs) : ∀ n : Nat, IsL K F (List.replicate n ds).flatten (List.replicate n vs).flatten
  | 0 => by simp [IsL]
  | n + 1 => by
    rw [List.replicate_succ, List.replicate_succ, List.flatten_cons, List.flatten_cons]
    exact h.append (IsL.rep h n)
theorem foldl_app (x : Array Nat) : ∀ (n : Nat) (a : Array Nat), ((List.replicate n x).foldl (· ++ ·) a).toList = a.toList ++ (List.replicate n x.toList).flatten
  | 0, a => by simp
  | n + 1, a => by
    rw [List.replicate_succ, List.foldl_cons, foldl_app x n, List.replicate_succ, List.flatten_cons]
    simp
theorem strOk_mul {x : Str} {n : Int} (h : PyData.strOk x = true) : PyData.strOk (Txt.mul x n) = true := by
  unfold Txt.mul
  by_cases h1 : n < 1
  · rw [if_pos h1]; decide +kernel
  · rw [if_neg h1]
    by_cases h2 : (n == 1 || x.length == 0) = true
    · rw [if_pos h2]; exact h
    · rw [if_neg h2, strOk_iff]
      rw [strOk_iff] at h
      intro q hq
      rw [show ((⟨(List.replicate n.toNat x.cps).foldl (· ++ ·) #[]⟩ : Str)).cps = (List.replicate n.toNat x.cps).foldl (· ++ ·) #[] from rfl, foldl_app] at hq
      simp only [List.nil_append, List.mem_flatten, List.mem_replicate, Array.toList_empty] at hq
      obtain ⟨l, ⟨_, rfl⟩, hl⟩ := hq
      exact h q hl
theorem op_mul_str {X : Cx} : OpR X (binaryOp .Mult) (fun x y H Q => ∃ z j, x = .str z ∧ y = .int j ∧ MulOk z j ∧ Q (.str (Txt.mul z j)) H) := by
  intro pins s σ H x y v u Q I rx ry h
  obtain ⟨z, j, rfl, rfl, ok, q⟩ := h
  obtain ⟨t, rfl⟩ := rx
  obtain ⟨t', rfl⟩ := ry
  exact SB.mul ok fun t k => ⟨.str _, H, I.tok _, ⟨_, rfl⟩, q⟩
theorem mulOk_small {x : Str} {n : Int} (h0 : 0 ≤ n) (h1 : n ≤ 1000) (h2 : x.length ≤ 1000) : MulOk x n := by
  refine ⟨?_, fun h h' => ?_, fun h h' => ?_⟩
  · rw [Bool.or_eq_false_iff]
    exact ⟨decide_eq_false (by omega), decide_eq_false (by omega)⟩
  · have : (1000 : Int) ≤ (2 ^ 63 - 1) / n := by
      rw [Int.le_ediv_iff_mul_le (by omega)]
      omega
    omega
  · unfold Builtin.Str.tooLong
    have : x.length * n.toNat ≤ 1000 * 1000 := Nat.mul_le_mul h2 (by omega)
    first
      | (apply decide_eq_false; rw [sizeLine_eq]; omega)
      | (simp; omega)
theorem o_mul : OpS X c (binaryOp .Mult) .bw .bw mulD := by
  refine ⟨_, op_mul.or (op_mul_str.or op_rep), fun F H x y dx dy d A B Q s hx hy e q => ?_⟩
  cases dx with
  | int i =>
    cases dy with
    | int j =>
      simp only [mulD] at e
      by_cases g : (smallI i || smallI j) = true
      · rw [if_pos g] at e
        cases e
        refine .inl ⟨i, j, hx.int, hy.int, ?_, q _ F H (Up.refl s) (by simp only [Is])⟩
        rcases Bool.or_eq_true_iff.mp g with z | z
        · exact .inl (of_decide_eq_true z)
        · exact .inr (of_decide_eq_true z)
      · rw [if_neg g] at e; cases e
    | _ => simp [mulD] at e
  | str z =>
    cases dy with
    | int j =>
      simp only [mulD] at e
      by_cases g : (decide (0 ≤ j) && decide (j ≤ 1000) && decide (z.length ≤ 1000)) = true
      · rw [if_pos g] at e
        cases e
        obtain ⟨g1, g3⟩ := Bool.and_eq_true_iff.mp g
        obtain ⟨g1, g2⟩ := Bool.and_eq_true_iff.mp g1
        exact .inr (.inl ⟨z, j, hx.strV.1, hy.int, mulOk_small (of_decide_eq_true g1) (of_decide_eq_true g2) (of_decide_eq_true g3), q _ F H (Up.refl s) (Is.str (strOk_mul hx.strV.2))⟩)
      · rw [if_neg g] at e; cases e
    | _ => simp [mulD] at e
  | lst xs =>
    cases dy with
    | int j =>
      simp only [mulD] at e
      by_cases g : (decide (0 ≤ j) && decide (j ≤ 1000) && decide (xs.length ≤ 1000)) = true
      · rw [if_pos g] at e
        cases e
        obtain ⟨g1, g3⟩ := Bool.and_eq_true_iff.mp g
        obtain ⟨g1, g2⟩ := Bool.and_eq_true_iff.mp g1
        have g1 := of_decide_eq_true g1
        have g2 := of_decide_eq_true g2
        have g3 := of_decide_eq_true g3
        obtain ⟨p, vs, rfl, hp, hi⟩ := hx.lstF rfl s
        refine .inr (.inr ⟨p, j, vs, rfl, hy.int, hp, by omega, by omega, ?_, fun l hl => q _ _ _ (Up.newF s hl) ?_⟩)
        · have hl : vs.length ≤ 1000 := by rw [hi.length]; exact g3
          have : vs.length * j.toNat ≤ 1000 * 1000 := Nat.mul_le_mul hl (by omega)
          rw [sizeLine_eq]; omega
        · simp only [Is]
          exact ⟨l, _, rfl, upd_same, (IsL.rep hi j.toNat).mono (Up.newF (o := .lst (List.replicate j.toNat vs).flatten) s hl).ff⟩
      · rw [if_neg g] at e; cases e
    | _ => simp [mulD] at e
  | _ => simp [mulD] at e
def divD (x y : D) : Option D := match x, y with
  | .int i, .int j => if decide (0 < j) && decide (j < 1073741824) then some (.int (i / j)) else none
  | _, _ => none
theorem o_div : OpS X c (binaryOp .FloorDiv) .bw .bw divD := by
  refine ⟨_, op_fdiv, fun F H x y dx dy d A B Q s hx hy e q => ?_⟩
  cases dx with
  | int i =>
    cases dy with
    | int j =>
      simp only [divD] at e
      by_cases g : (decide (0 < j) && decide (j < 1073741824)) = true
      · rw [if_pos g] at e
        cases e
        obtain ⟨g1, g2⟩ := Bool.and_eq_true_iff.mp g
        exact ⟨i, j, hx.int, hy.int, ⟨of_decide_eq_true g1, of_decide_eq_true g2⟩, q _ F H (Up.refl s) (by simp only [Is])⟩
      · rw [if_neg g] at e; cases e
    | _ => simp [divD] at e
  | _ => simp [divD] at e
def modD (x y : D) : Option D := match x, y with
  | .int i, .int j => if decide (0 < j) then some (.int (i % j)) else none
  | _, _ => none
theorem o_mod : OpS X c (binaryOp .Mod) .bw .bw modD := by
  refine ⟨_, op_mod, fun F H x y dx dy d A B Q s hx hy e q => ?_⟩
  cases dx with
  | int i =>
    cases dy with
    | int j =>
      simp only [modD] at e
      by_cases g : (decide (0 < j)) = true
      · rw [if_pos g] at e
        cases e
        exact ⟨i, j, hx.int, hy.int, of_decide_eq_true g, q _ F H (Up.refl s) (by simp only [Is])⟩
      · rw [if_neg g] at e; cases e
    | _ => simp [modD] at e
  | _ => simp [modD] at e
def powD (x y : D) : Option D := match x, y with
  | .int i, .int j => if decide (0 ≤ j) && decide (j ≤ 100) && decide (i.natAbs < 2 ^ 64) then some (.int (i ^ j.toNat)) else none
  | _, _ => none
theorem o_pow : OpS X c (binaryOp .Pow) .bw .bw powD := by
  refine ⟨_, op_pow, fun F H x y dx dy d A B Q s hx hy e q => ?_⟩
  cases dx with
  | int i =>
    cases dy with
    | int j =>
      simp only [powD] at e
      by_cases g : (decide (0 ≤ j) && decide (j ≤ 100) && decide (i.natAbs < 2 ^ 64)) = true
      · rw [if_pos g] at e
        cases e
        obtain ⟨g1, g3⟩ := Bool.and_eq_true_iff.mp g
        obtain ⟨g1, g2⟩ := Bool.and_eq_true_iff.mp g1
        have g2 := of_decide_eq_true g2
        exact ⟨i, j, hx.int, hy.int, ⟨of_decide_eq_true g1, by omega, of_decide_eq_true g3⟩, q _ F H (Up.refl s) (by simp only [Is])⟩
      · rw [if_neg g] at e; cases e
    | _ => simp [powD] at e
  | _ => simp [powD] at e
def cmpI (p : Int → Int → Bool) (x y : D) : Option Bool := match x, y with
  | .int i, .int j => some (p i j)
  | _, _ => none
theorem o_cmpI {g : Value → Value → Sem Value} {p : Int → Int → Bool} (h : OpR X g (rI0 fun i j => .bl (p i j))) : OpS X c g .bw .bw fun x y => (cmpI p x y).map D.bl := by
  refine ⟨_, h, fun F H x y dx dy d A B Q s hx hy e q => ?_⟩
  cases dx with
  | int i =>
    cases dy with
    | int j =>
      cases e
      exact ⟨i, j, hx.int, hy.int, q _ F H (Up.refl s) (by simp only [Is])⟩
    | _ => simp [cmpI] at e
  | _ => simp [cmpI] at e
/-- is None, is not None -/
def isN (x y : D) : Option Bool := match x, y with
  | .non, .non => some true
  | _, .non => some false
  | _, _ => none
theorem isN_ok {K : PySem.W.Frag} {d : D} {v : V} (h : Is K H d v) : isN d .non = some (decide (v = .non)) := by
  cases d <;> simp only [Is] at h <;> first
    | (subst h; rfl)
    | (obtain ⟨rfl, _⟩ := h; rfl)
    | (obtain ⟨_, _, rfl, _⟩ := h; rfl)
    | (obtain ⟨_, _, _, rfl, _⟩ := h; rfl)
    | (obtain ⟨_, rfl, _⟩ := h; rfl)
theorem isN_y {x y : D} {k : Bool} (h : isN x y = some k) : y = .non := by
  cases y <;> first | rfl | (cases x <;> simp [isN] at h)
theorem o_is : OpS X c (compareOp .Is) .bw .bw fun x y => (isN x y).map D.bl := by
  refine ⟨_, op_isN, fun F H x y dx dy d A B Q s hx hy e q => ?_⟩
  change (isN dx dy).map D.bl = some d at e
  cases g : isN dx dy with
  | none => rw [g] at e; cases e
  | some k =>
    rw [g] at e; cases e
    have e2 := isN_y g
    subst e2
    have q2 := hy.scal rfl
    simp only [Is] at q2
    have e3 := isN_ok (hx.see s)
    rw [g] at e3
    exact ⟨q2, q _ F H (Up.refl s) (by simp only [Is]; rw [← Option.some.inj e3])⟩
end Ev

set_option maxHeartbeats 4000000
namespace Ev
open PySem PySem.Spec PyProof.Rows L2
variable [Wd]
variable {X : Cx} {c : Cp} {F G H F' G' H' : Hp} {σ : L2.St} {δ : Env} {a b e : Expr} {pos : Pos} {ta tb tc ty : Ty} {oa ob oc o : OT} {fa fb fc : Env → Option R}
def inS (x y : D) : Option Bool := match y with
  | .lst ds => if okD 59 x && okDs 59 ds then some (ds.any fun z => eqB z x) else none
  | .tup ds => if okD 59 x && okDs 59 ds then some (ds.any fun z => eqB z x) else none
  | .str z => (match x with
    | .str w => (match w.cps.toList with
      | [q] => some (decide (q ∈ z.cps.toList))
      | _ => none)
    | _ => none)
  | _ => none
def inD (x y : D) : Option Bool := match y with
  | .dic ks ds => (keyD x).map fun k => ks.any fun j => decide (j = k)
  | y => inS x y
theorem op_inTD {X : Cx} (hu : X.A.units + 65 < cLine) : OpR X (compareOp .In) (fun x y H Q => ∃ d ds, Dp X.K H x d ∧ Dp X.K H y (.tuple ds) ∧ SeqAt.shaped d = true ∧ SeqAt.shaped (.tuple ds) = true ∧ Q (.bl (ds.any fun z => PyData.eqv z d)) H) := by
  intro pins s σ H x y v u Q I rx ry h
  obtain ⟨d, ds, hd, he, sd, se, q⟩ := h
  obtain ⟨as, r1⟩ := Dp.reads I d x v hd rx
  obtain ⟨bs, r2⟩ := Dp.reads I (.tuple ds) y u he ry
  exact SeqAt.in_tuple_reads r2 r1 (SeqAt.canLay_of_shaped se) (SeqAt.canLay_of_shaped sd) (room_in_shaped sd hu) ⟨.bl _, H, I, rfl, q⟩
theorem op_notInTD {X : Cx} (hu : X.A.units + 65 < cLine) : OpR X (compareOp .NotIn) (fun x y H Q => ∃ d ds, Dp X.K H x d ∧ Dp X.K H y (.tuple ds) ∧ SeqAt.shaped d = true ∧ SeqAt.shaped (.tuple ds) = true ∧ Q (.bl (!ds.any fun z => PyData.eqv z d)) H) := by
  intro pins s σ H x y v u Q I rx ry h
  obtain ⟨d, ds, hd, he, sd, se, q⟩ := h
  obtain ⟨as, r1⟩ := Dp.reads I d x v hd rx
  obtain ⟨bs, r2⟩ := Dp.reads I (.tuple ds) y u he ry
  exact SeqAt.notIn_tuple_reads r2 r1 (SeqAt.canLay_of_shaped se) (SeqAt.canLay_of_shaped sd) (room_in_shaped sd hu) ⟨.bl _, H, I, rfl, q⟩
theorem any_py {x : D} {n m : Nat} : ∀ {ds : List D}, okDs n ds = true → okD m x = true → ((pyOfs ds).any fun z => PyData.eqv z (pyOf x)) = ds.any fun z => eqB z x
  | [], _, _ => rfl
  | d :: ds, h, k => by
    simp only [okDs, Bool.and_eq_true] at h
    simp only [pyOfs, List.any_cons]
    rw [eqB_py h.1 k, any_py h.2 k]
mutual
theorem okD_mono : ∀ {d : D} {n m : Nat}, okD n d = true → n ≤ m → okD m d = true
  | .non, _, _, _, _ => by simp [okD]
  | .bl _, _, _, _, _ => by simp [okD]
  | .int _, _, _, _, _ => by simp [okD]
  | .str _, _, _, _, _ => by simp [okD]
  | .tup xs, 0, _, h, _ => by simp [okD] at h
  | .tup xs, n + 1, 0, h, l => by omega
  | .tup xs, n + 1, m + 1, h, l => by simp only [okD] at h ⊢; exact okDs_mono h (by omega)
  | .lst xs, 0, _, h, _ => by simp [okD] at h
  | .lst xs, n + 1, 0, h, l => by omega
  | .lst xs, n + 1, m + 1, h, l => by simp only [okD] at h ⊢; exact okDs_mono h (by omega)
  | .dic _ _, n, _, h, _ => by cases n <;> simp [okD] at h
  | .ins _ _, n, _, h, _ => by cases n <;> simp [okD] at h
  | .lck _, n, _, h, _ => by cases n <;> simp [okD] at h
  | .cl _, n, _, h, _ => by cases n <;> simp [okD] at h
  | .xv, n, _, h, _ => by cases n <;> simp [okD] at h
theorem okDs_mono : ∀ {ds : List D} {n m : Nat}, okDs n ds = true → n ≤ m → okDs m ds = true
  | [], _, _, _, _ => by simp [okDs]
  | x :: xs, n, m, h, l => by
    simp only [okDs, Bool.and_eq_true] at h ⊢
    exact ⟨okD_mono h.1 l, okDs_mono h.2 l⟩
end
theorem sign_of {w : Str} {q : Nat} (h : w.cps.toList = [q]) : w = ⟨#[q]⟩ := by
  obtain ⟨a⟩ := w
  have : a = #[q] := by
    apply Array.toList_inj.mp
    rw [h]
  rw [this]
/-- the rule for what is no dict -/
theorem o_in (hu : X.A.units + 65 < cLine) (hK : X.K = c.K) : OpS X c (compareOp .In) .bw .bw fun x y => (inS x y).map D.bl := by
  refine ⟨_, (op_inD hu).or ((op_inTD hu).or op_in_sign), fun F H x y dx dy d A B Q s hx hy e q => ?_⟩
  change (inS dx dy).map D.bl = some d at e
  cases dy with
  | lst ds =>
    simp only [inS] at e
    by_cases g : (okD 59 dx && okDs 59 ds) = true
    · rw [if_pos g] at e
      cases e
      obtain ⟨g1, g2⟩ := Bool.and_eq_true_iff.mp g
      obtain ⟨a1, a2⟩ := shaped_of (okD_mono g1 (by omega)) (hx.see s)
      obtain ⟨b1, b2⟩ := shaped_of (d := .lst ds) (by simp only [okD]; exact g2) (hy.see s)
      refine .inl ⟨pyOf dx, pyOfs ds, hK ▸ a1, hK ▸ (by simpa only [pyOf] using b1), a2, by simpa only [pyOf] using b2, q _ F H (Up.refl s) ?_⟩
      rw [any_py g2 g1]
      simp only [Is]
    · rw [if_neg g] at e; cases e
  | tup ds =>
    simp only [inS] at e
    by_cases g : (okD 59 dx && okDs 59 ds) = true
    · rw [if_pos g] at e
      cases e
      obtain ⟨g1, g2⟩ := Bool.and_eq_true_iff.mp g
      obtain ⟨a1, a2⟩ := shaped_of (okD_mono g1 (by omega)) (hx.see s)
      obtain ⟨b1, b2⟩ := shaped_of (d := .tup ds) (by simp only [okD]; exact g2) (hy.see s)
      refine .inr (.inl ⟨pyOf dx, pyOfs ds, hK ▸ a1, hK ▸ (by simpa only [pyOf] using b1), a2, by simpa only [pyOf] using b2, q _ F H (Up.refl s) ?_⟩)
      rw [any_py g2 g1]
      simp only [Is]
    · rw [if_neg g] at e; cases e
  | str z =>
    cases dx with
    | str w =>
      simp only [inS] at e
      split at e
      · rename_i r hr
        cases e
        refine .inr (.inr ⟨r, z, ?_, hy.strV.1, q _ F H (Up.refl s) (by simp only [Is])⟩)
        rw [← sign_of hr]
        exact hx.strV.1
      · cases e
    | _ => simp [inS] at e
  | _ => simp [inS] at e
theorem o_notin (hu : X.A.units + 65 < cLine) (hK : X.K = c.K) : OpS X c (compareOp .NotIn) .bw .bw fun x y => ((inS x y).map (!·)).map D.bl := by
  refine ⟨_, (op_notInD hu).or ((op_notInTD hu).or op_notIn_sign), fun F H x y dx dy d A B Q s hx hy e q => ?_⟩
  change ((inS dx dy).map (!·)).map D.bl = some d at e
  cases dy with
  | lst ds =>
    simp only [inS] at e
    by_cases g : (okD 59 dx && okDs 59 ds) = true
    · rw [if_pos g] at e
      cases e
      obtain ⟨g1, g2⟩ := Bool.and_eq_true_iff.mp g
      obtain ⟨a1, a2⟩ := shaped_of (okD_mono g1 (by omega)) (hx.see s)
      obtain ⟨b1, b2⟩ := shaped_of (d := .lst ds) (by simp only [okD]; exact g2) (hy.see s)
      refine .inl ⟨pyOf dx, pyOfs ds, hK ▸ a1, hK ▸ (by simpa only [pyOf] using b1), a2, by simpa only [pyOf] using b2, q _ F H (Up.refl s) ?_⟩
      rw [any_py g2 g1]
      simp only [Is]
    · rw [if_neg g] at e; cases e
  | tup ds =>
    simp only [inS] at e
    by_cases g : (okD 59 dx && okDs 59 ds) = true
    · rw [if_pos g] at e
      cases e
      obtain ⟨g1, g2⟩ := Bool.and_eq_true_iff.mp g
      obtain ⟨a1, a2⟩ := shaped_of (okD_mono g1 (by omega)) (hx.see s)
      obtain ⟨b1, b2⟩ := shaped_of (d := .tup ds) (by simp only [okD]; exact g2) (hy.see s)
      refine .inr (.inl ⟨pyOf dx, pyOfs ds, hK ▸ a1, hK ▸ (by simpa only [pyOf] using b1), a2, by simpa only [pyOf] using b2, q _ F H (Up.refl s) ?_⟩)
      rw [any_py g2 g1]
      simp only [Is]
    · rw [if_neg g] at e; cases e
  | str z =>
    cases dx with
    | str w =>
      simp only [inS] at e
      split at e
      · rename_i r hr
        cases e
        refine .inr (.inr ⟨r, z, ?_, hy.strV.1, q _ F H (Up.refl s) (by simp only [Is])⟩)
        rw [← sign_of hr]
        exact hx.strV.1
      · cases e
    | _ => simp [inS] at e
  | _ => simp [inS] at e
theorem valV_isSome {k : Key} : ∀ {kvs : List (Key × V)}, (valV kvs k).isSome = (kvs.map (·.1)).any fun j => decide (j = k)
  | [] => by simp [valV]
  | (j, w) :: r => by
    by_cases h : j = k
    · rw [valV_pos (p := (j, w)) h]; simp [h]
    · rw [valV_neg (p := (j, w)) h, valV_isSome (kvs := r)]
      simp [h]
theorem PT.or {t t' : TT} (h : PT X e t) (h' : PT X e t') : PT X e (fun σ H Q => t σ H Q ∨ t' σ H Q) := ⟨fun pins s σ H Q I q => by
  rcases q with q | q
  · exact h.run pins s σ H Q I q
  · exact h'.run pins s σ H Q I q⟩
/-- x in d, x not in d: neg tells which -/
def inN (neg : Bool) (x y : D) : Option Bool := if neg then (inD x y).map (!·) else inD x y
def opIn (neg : Bool) : CmpOp := if neg then .NotIn else .In
theorem inN_S {neg : Bool} {x y : D} (h : ¬ ∃ ks ds, y = .dic ks ds) : inN neg x y = if neg then (inS x y).map (!·) else inS x y := by
  unfold inN
  have : inD x y = inS x y := by
    cases y <;> first | rfl | exact (h ⟨_, _, rfl⟩).elim
  rw [this]
theorem o_inN (neg : Bool) (hu : X.A.units + 65 < cLine) (hK : X.K = c.K) : OpS X c (compareOp (opIn neg)) .bw .bw fun x y => (if neg then (inS x y).map (!·) else inS x y).map D.bl := by
  cases neg with
  | true => exact o_notin hu hK
  | false => exact o_in hu hK
/-- the dict's part -/
theorem pc_inN (neg : Bool) {ty td : TE} (hu : X.A.units + 1 < cLine) (hi : PE X a ty) (ho : PE X b td) : PC X (opIn neg) a b (fun σ H Q => ty σ H fun y H1 => td σ H1 fun x H2 => ∃ p o, x = .ref p ∧ DGet H2 p y o ∧ Q (.bl (if neg then !o.isSome else o.isSome)) H2) := by
  cases neg with
  | true => exact pc_dnotin hu hi ho
  | false => exact pc_din hu hi ho
theorem dict_in {neg : Bool} {ks : List Key} {ds : List D} {dx : D} {x y : V} {k : Bool} {A B : List Addr} {P : Bool → Hp → Prop} (s : Same F H) (hx : Own c.K F H .bw dx x A) (hy : Own c.K F H .bw (.dic ks ds) y B) (e : inN neg dx (.dic ks ds) = some k)
    (q : P k H) : ∃ p o, y = .ref p ∧ DGet H p x o ∧ P (if neg then !o.isSome else o.isSome) H := by
  obtain ⟨p, kvs, rfl, hp, rfl, hl, _⟩ := hy.dict s
  cases e4 : keyD dx with
  | none => cases neg <;> simp [inN, inD, e4] at e
  | some j =>
    have hx2 := keyD_is e4 (hx.see s)
    subst hx2
    refine ⟨p, _, rfl, DGet.k hp, ?_⟩
    rw [valV_isSome]
    cases neg with
    | true =>
      simp only [inN, inD, e4] at e
      cases e
      exact q
    | false =>
      simp only [inN, inD, e4] at e
      cases e
      exact q
theorem t_in {neg : Bool} (hu : X.A.units + 65 < cLine) (hK : X.K = c.K) (ha : PE X a (tV c ta fa)) (hb : PE X b (tV c tb fb)) (ca : coe ta .bw = true) (cb : coe tb .bw = true) (hm : behindInMarks (opIn neg) b = false) :
    PT X (.Compare a [opIn neg] [b] pos) (tT c fun δ => bnd (fa δ) fun x => bnd (fb δ) fun y => okB (inN neg x y)) := by
  obtain ⟨r, hr, hf⟩ := o_inN (c := c) neg hu hK
  refine PT.imp (PT.or (pt_cmpR hr ha hb hm) (pt_cmp (pc_inN neg (by omega) ha hb) hm)) fun σ H Q h => ?_
  obtain ⟨F, δ, E, h⟩ := h
  have cases2 : (∃ ks ds, fb δ = some (.ok (.dic ks ds))) ∨ ¬ ∃ ks ds, fb δ = some (.ok (.dic ks ds)) := Classical.em _
  rcases cases2 with ⟨ks, ds, hd⟩ | hd
  · refine .inr (tV.goT ca E h fun dx x F1 H1 u1 E1 hx h1 => ?_)
    refine tV.go (Gd := fun F H r => Gt c F H σ Q r) cb E1 (fun _ h => h) (fun h => h) (fun _ _ _ g u => g.up u) h1 fun dy y F2 H2 e2 u2 E2 hy h2 => ?_
    rw [hd] at e2; cases e2
    obtain ⟨A, hx⟩ := hx
    obtain ⟨B, hy⟩ := hy
    obtain ⟨k, e, q⟩ := h2.okB
    refine dict_in (P := fun k H => ∃ c, V.bl k = .bl c ∧ Q c H) u2.fh (hx.up u2) hy e ⟨k, rfl, q F2 H2 (Up.refl u2.fh)⟩
  · refine .inl (tV.goT ca E h fun dx x F1 H1 u1 E1 hx h1 => ?_)
    refine tV.go (Gd := fun F H r => Gt c F H σ Q r) cb E1 (fun _ h => h) (fun h => h) (fun _ _ _ g u => g.up u) h1 fun dy y F2 H2 e2 u2 E2 hy h2 => ?_
    obtain ⟨A, hx⟩ := hx
    obtain ⟨B, hy⟩ := hy
    obtain ⟨k, e, q⟩ := h2.okB
    rw [inN_S (fun ⟨ks, ds, z⟩ => hd ⟨ks, ds, by rw [e2, z]⟩)] at e
    refine hf F2 H2 x y dx dy (.bl k) A B _ u2.fh (hx.up u2) hy (by show (if neg = true then _ else _ : Option Bool).map D.bl = _; rw [e]; rfl) fun v F' H' u i => ?_
    simp only [Is] at i
    exact ⟨k, i, q F' H' u⟩
end Ev

set_option maxHeartbeats 4000000
namespace Ev
open PySem PySem.Spec PyProof.Rows L2
variable [Wd]
variable {X : Cx} {c : Cp} {F G H F' G' H' : Hp} {σ : L2.St} {δ : Env} {a b e : Expr} {es : List Expr} {pos p : Pos} {x : Str} {ta tb tc ty : Ty} {oa ob oc o : OT} {os : List OT} {fa fb fc : Env → Option R} {fs : Env → Option RL}
def CallS (X : Cx) (c : Cp) (f : Value) (os : List OT) (ty : Ty) (g : List D → Option D) : Prop := ∃ r, CallR X f r ∧
  ∀ (F H : Hp) (vs : List V) (ds : List D) (d : D) (Q : VK), Same F H → ViewL c.K F H os ds vs → g ds = some d → (∀ v F' H', Up F H F' H' → Post c.K H F' H' ty d v → Q v H') → r vs H Q
theorem Gv.okT {Q : VK} {r : Option D} (g : Gv c ty F H σ Q (Ev.okO r)) : ∃ d, r = some d ∧ ∀ v F' H', Up F H F' H' → Post c.K H F' H' ty d v → Q v H' := by
  cases r with
  | none => exact g.elim
  | some d => exact ⟨d, rfl, g⟩
theorem s_callB {id : String} {g : List D → Option D} (h : CallS X c (.builtin id) os ty g) (hg : Gl X x) (hm : X.mg x = none) (hv : bootBuiltins x = some (.builtin id)) (ha : PA X (e :: es) (tL c os fs)) (hn : x ≠ "__name__") (hdb : (x == ("__debug__" : Str)) = false)
    (he : starEach (e :: es) X.env = (false, eval e X.env) :: starEach es X.env) (hpl : (backTo pos (starEach es X.env)).any (·.1) = false) :
    PE X (.Call (.Name x p) (e :: es) [] pos) (tV c ty fun δ => bndL (fs δ) fun ds => okO (g ds)) := by
  obtain ⟨r, hr, hf⟩ := h
  refine PE.imp (pe_callB hr hg hm hv ha hn hdb he hpl) fun σ H Q h => ?_
  obtain ⟨F, δ, E, h⟩ := h
  refine tL.goV E h fun ds vs F1 H1 u1 E1 w h1 => ?_
  obtain ⟨d, e, q⟩ := h1.okT
  exact hf F1 H1 vs ds d Q u1.fh w e q
theorem s_callTy {T : String} {g : List D → Option D} (h : CallS X c (.type T) os ty g) (hg : Gl X x) (hm : X.mg x = none) (hv : bootBuiltins x = some (.type T)) (ha : PA X (e :: es) (tL c os fs)) (hn : x ≠ "__name__") (hdb : (x == ("__debug__" : Str)) = false)
    (he : starEach (e :: es) X.env = (false, eval e X.env) :: starEach es X.env) (hpl : (backTo pos (starEach es X.env)).any (·.1) = false) :
    PE X (.Call (.Name x p) (e :: es) [] pos) (tV c ty fun δ => bndL (fs δ) fun ds => okO (g ds)) := by
  obtain ⟨r, hr, hf⟩ := h
  refine PE.imp (pe_callTy hr hg hm hv ha hn hdb he hpl) fun σ H Q h => ?_
  obtain ⟨F, δ, E, h⟩ := h
  refine tL.goV E h fun ds vs F1 H1 u1 E1 w h1 => ?_
  obtain ⟨d, e, q⟩ := h1.okT
  exact hf F1 H1 vs ds d Q u1.fh w e q
theorem view1 {K : PySem.W.Frag} {ds : List D} {vs : List V} (h : ViewL K F H [o] ds vs) : ∃ d v A, ds = [d] ∧ vs = [v] ∧ Own K F H o d v A := by
  cases ds with
  | nil => simp [ViewL] at h
  | cons d r =>
    simp only [ViewL] at h
    obtain ⟨v, rv, rfl, ⟨A, h1⟩, h2⟩ := h
    cases r with
    | nil => simp only [ViewL] at h2; subst h2; exact ⟨d, v, A, rfl, rfl, h1⟩
    | cons _ _ => simp [ViewL] at h2
theorem view2 {K : PySem.W.Frag} {ds : List D} {vs : List V} (h : ViewL K F H [oa, ob] ds vs) : ∃ d d' v v' A B, ds = [d, d'] ∧ vs = [v, v'] ∧ Own K F H oa d v A ∧ Own K F H ob d' v' B := by
  cases ds with
  | nil => simp [ViewL] at h
  | cons d r =>
    simp only [ViewL] at h
    obtain ⟨v, rv, rfl, ⟨A, h1⟩, h2⟩ := h
    obtain ⟨d', v', B, rfl, rfl, h3⟩ := view1 h2
    exact ⟨d, d', v, v', A, B, rfl, rfl, h1, h3⟩
def lenD : List D → Option D
  | [.lst ds] => some (.int ds.length)
  | [.tup ds] => some (.int ds.length)
  | [.dic ks ds] => some (.int ks.length)
  | [.lck ns] => some (.int ns.length)
  | [.str z] => if z.length ≤ sizeLine then some (.int z.length) else none
  | _ => none
theorem b_len (hK : X.K = c.K) : CallS X c (.builtin "len") [.bw] (.vw .fz) lenD := by
  refine ⟨_, call_len.or call_lenD, fun F H vs ds d Q s w e q => ?_⟩
  obtain ⟨d0, v, A, rfl, rfl, hx⟩ := view1 w
  have fin : ∀ n : Nat, d = .int n → Q (.int n) H := fun n z => by
    subst z; exact q _ F H (Up.refl s) ⟨[], Own.of_is (by simp only [Is])⟩
  cases d0 with
  | lst ds =>
    cases e
    obtain ⟨p, vs, rfl, hp, hi⟩ := hx.lstF rfl s
    exact .inl ⟨_, ds.length, rfl, .inl ⟨vs, SqL.of hp, hi.length.symm⟩, fin _ rfl⟩
  | tup ds =>
    cases e
    obtain ⟨p, vs, rfl, hp, hi, _⟩ := hx.tup s
    exact .inl ⟨_, ds.length, rfl, .inr ⟨vs, hp.sq, hi.length.symm⟩, fin _ rfl⟩
  | dic ks ds =>
    cases e
    obtain ⟨p, kvs, rfl, hp, rfl, _, _⟩ := hx.dict s
    exact .inr ⟨p, kvs, rfl, hp, fin _ (by simp)⟩
  | lck ns =>
    cases e
    have q1 := hx.scal rfl
    simp only [Is] at q1
    obtain ⟨p, rfl, hp⟩ := q1
    exact .inl ⟨_, ns.length, rfl, .inl ⟨_, hK ▸ s.seq hp, by simp⟩, fin _ rfl⟩
  | str z =>
    simp only [lenD] at e
    by_cases g : z.length ≤ sizeLine
    · rw [if_pos g] at e; cases e
      exact .inl ⟨_, z.length, rfl, by rw [hx.strV.1]; exact ⟨g, rfl⟩, fin _ rfl⟩
    · rw [if_neg g] at e; cases e
  | _ => simp [lenD] at e
/-- tuple(x), list(x) -/
def tupD : List D → Option D
  | [.lst ds] => some (.tup ds)
  | [.tup ds] => some (.tup ds)
  | _ => none
theorem b_tuple : CallS X c (.type "tuple") [.bw] (.vw .fz) tupD := by
  refine ⟨_, call_tupleX, fun F H vs ds d Q s w e q => ?_⟩
  obtain ⟨d0, v, A, rfl, rfl, hx⟩ := view1 w
  cases d0 with
  | lst ds =>
    cases e
    obtain ⟨p, vs, rfl, hp, hi⟩ := hx.lstF rfl s
    refine ⟨p, vs, rfl, .inl ⟨SqL.of hp, fun l ob hl hob => q _ _ _ (Up.newF s hl) ⟨[], Own.of_is ?_⟩⟩⟩
    simp only [Is]
    exact ⟨l, _, rfl, .inl ⟨ob, upd_same, hob⟩, hi.mono (Up.newF (o := .frz ob (.tup vs)) s hl).ff⟩
  | tup ds =>
    cases e
    obtain ⟨p, vs, rfl, hp, hi, _⟩ := hx.tup s
    exact ⟨p, vs, rfl, .inr ⟨hp.sq, q _ F H (Up.refl s) ⟨[], Own.of_is hx.tupIs⟩⟩⟩
  | _ => simp [tupD] at e
def lstD : List D → Option D
  | [.lst ds] => some (.lst ds)
  | [.tup ds] => some (.lst ds)
  | _ => none
theorem fresh_lst {l : Addr} {vs : List V} {ds : List D} (s : Same F H) (hl : H l = none) (hi : IsL c.K F ds vs) : Post c.K H F (upd H l (.lst vs)) (.fr (.lst .fz)) (.lst ds) (.ref l) := by
  refine ⟨[l], ?_, by simp, fun a ha => ?_⟩
  · simp only [Own]
    exact ⟨l, vs, [], rfl, upd_same, OwnL.of_fz hi, rfl⟩
  · have e : a = l := by simpa using ha
    subst e
    refine ⟨hl, ?_⟩
    cases q : F a with
    | none => rfl
    | some u => rw [s _ _ q] at hl; cases hl
theorem b_list : CallS X c (.type "list") [.bw] (.fr (.lst .fz)) lstD := by
  refine ⟨_, call_list_of, fun F H vs ds d Q s w e q => ?_⟩
  obtain ⟨d0, v, A, rfl, rfl, hx⟩ := view1 w
  cases d0 with
  | lst ds =>
    cases e
    obtain ⟨p, vs, rfl, hp, hi⟩ := hx.lstF rfl s
    exact ⟨p, vs, rfl, .inl (SqL.of hp), fun l hl => q _ F _ (Up.new s hl) (fresh_lst s hl hi)⟩
  | tup ds =>
    cases e
    obtain ⟨p, vs, rfl, hp, hi, _⟩ := hx.tup s
    exact ⟨p, vs, rfl, .inr (hp.sq), fun l hl => q _ F _ (Up.new s hl) (fresh_lst s hl hi)⟩
  | _ => simp [lstD] at e
def intD : List D → Option D
  | [.int i] => some (.int i)
  | [.bl b] => some (.int (if b then 1 else 0))
  | _ => none
theorem b_int : CallS X c (.type "int") [.bw] (.vw .fz) intD := by
  refine ⟨_, call_int1, fun F H vs ds d Q s w e q => ?_⟩
  obtain ⟨d0, v, A, rfl, rfl, hx⟩ := view1 w
  cases d0 with
  | int i =>
    cases e
    exact .inl ⟨i, by rw [hx.int], q _ F H (Up.refl s) ⟨[], Own.of_is (by simp only [Is])⟩⟩
  | bl b =>
    cases e
    have q1 := hx.scal rfl
    simp only [Is] at q1
    exact .inr ⟨b, by rw [q1], q _ F H (Up.refl s) ⟨[], Own.of_is (by simp only [Is])⟩⟩
  | _ => simp [intD] at e
def absD : List D → Option D
  | [.int i] => some (.int (if i < 0 then -i else i))
  | _ => none
theorem b_abs : CallS X c (.builtin "abs") [.bw] (.vw .fz) absD := by
  refine ⟨_, call_abs, fun F H vs ds d Q s w e q => ?_⟩
  obtain ⟨d0, v, A, rfl, rfl, hx⟩ := view1 w
  cases d0 with
  | int i =>
    cases e
    exact ⟨i, by rw [hx.int], q _ F H (Up.refl s) ⟨[], Own.of_is (by simp only [Is])⟩⟩
  | _ => simp [absD] at e
/-- isinstance(x, T), T a built-in class -/
inductive Tn where
  | tuple | list | bool | int | str
def Tn.nm : Tn → String
  | .tuple => "tuple" | .list => "list" | .bool => "bool" | .int => "int" | .str => "str"
def Tn.has : Tn → D → Option Bool
  | .tuple, .tup _ => some true
  | .list, .lst _ => some true
  | .bool, .bl _ => some true
  | .int, .int _ => some true
  | .int, .bl _ => some true
  | .str, .str _ => some true
  | _, .ins _ _ => none
  | _, .dct _ _ => none
  | _, .lck _ => none
  | _, .cl _ => none
  | _, .xv => none
  | _, _ => some false
def tyNm : D → String
  | .non => "NoneType" | .bl _ => "bool" | .int _ => "int" | .str _ => "str" | .tup _ => "tuple" | .lst _ => "list" | .dic _ _ => "dict" | .dct _ _ => "?" | .ins _ _ => "?" | .lck _ => "list" | .cl _ => "?" | .xv => "?"
theorem tyx_of {K : PySem.W.Frag} {d : D} {v : V} {A : List Addr} {k : Bool} {t : Tn} (s : Same F H) (h : Own K F H .bw d v A) (ht : t.has d = some k) : TyX K H v (.type (tyNm d)) := by
  cases d with
  | non => have q := h.scal rfl; simp only [Is] at q; subst q; exact .base .non
  | bl b => have q := h.scal rfl; simp only [Is] at q; subst q; exact .base (.bl b)
  | int i => rw [h.int]; exact .base (.int i)
  | str x => rw [h.strV.1]; exact .base (.str x)
  | tup ds => obtain ⟨p, vs, rfl, hp, _, _⟩ := h.tup s; rcases hp with ⟨o, hp, _⟩ | ⟨hp, _⟩; exact .fTuple hp; exact .base (.tup hp)
  | lst ds => obtain ⟨p, vs, rfl, hp, _⟩ := h.lstF rfl s; exact .base (.lst hp)
  | dic ks ds => obtain ⟨p, vs, rfl, hp, _⟩ := h.dict s; exact .base (.dK hp)
  | dct ks ds => cases t <;> simp [Tn.has] at ht
  | ins c ds => cases t <;> simp [Tn.has] at ht
  | lck ns => cases t <;> simp [Tn.has] at ht
  | cl _ => cases t <;> simp [Tn.has] at ht
  | xv => cases t <;> simp [Tn.has] at ht
theorem kit_has {K : PySem.W.Frag} {d : D} {k : Bool} {t : Tn} (ht : t.has d = some k) : PySem.W.kitOne K (.type (tyNm d)) (.type t.nm) = some k := by
  cases t <;> cases d <;> simp [Tn.has] at ht <;> subst ht <;> exact kit_ty (by simp only [tyNm, Tn.nm]; decide +kernel)
theorem s_isi {t : Tn} {xi xt : Str} {pi pt : Pos} (hK : X.K = c.K) (ha : PE X a (tV c ta fa)) (ca : coe ta .bw = true) (hg : Gl X xi) (hm : X.mg xi = none) (hv : bootBuiltins xi = some (.builtin "isinstance"))
    (hgt : Gl X xt) (hmt : X.mg xt = none) (hvt : bootBuiltins xt = some (.type t.nm)) (hn : xi ≠ "__name__") (hdb : (xi == ("__debug__" : Str)) = false) (hn2 : xt ≠ "__name__") (hdb2 : (xt == ("__debug__" : Str)) = false)
    (hs : starEach [a, .Name xt pt] X.env = (false, eval a X.env) :: starEach [.Name xt pt] X.env) :
    PE X (.Call (.Name xi pi) [a, .Name xt pt] [] pos) (tV c (.vw .fz) fun δ => bnd (fa δ) fun d => okB (t.has d)) := by
  refine PE.imp (pe_callB call_isi hg hm hv (pa_cons ha (pa_cons (pe_bltn hgt hmt hvt (v := .ty t.nm) rfl hn2 hdb2) pa_nil) hs) hn hdb hs (by rfl)) fun σ H Q h => ?_
  obtain ⟨F, δ, E, h⟩ := h
  refine tV.goV ca E h fun d v F1 H1 u1 E1 hx h1 => ?_
  obtain ⟨A, hx⟩ := hx
  obtain ⟨k, e, q⟩ := h1.okB
  exact ⟨v, .ty t.nm, .type (tyNm d), .type t.nm, k, rfl, .ty _, hK ▸ tyx_of u1.fh hx e, kit_has e, q F1 H1 (Up.refl u1.fh)⟩
def fldIx (f : Str) : List Str → Option Nat
  | [] => none
  | g :: r => if g = f then some 0 else (fldIx f r).map (· + 1)
def fldD (f : Str) : D → Option D
  | .ins c ds => (fldIx f (clsT c).fields).bind fun i => ds[i]?
  | _ => none
/-- what is known of a class whose fields are read -/
def ClsOk (K : PySem.W.Frag) (i : Nat) : Prop := Cls K (clsA K i) ∧ ∀ f ∈ (clsT i).fields, NoAttr K (clsA K i) f
structure Sig where
  args : List OT
  ret : Ty
abbrev Fn := List D → Option R
def GF (K : PySem.W.Frag) (F H : Hp) (ty : Ty) (Q : VK) (E : XK) : Option R → Prop
  | some (.ok d) => ∀ v F' H', Up F H F' H' → Post K H F' H' ty d v → Q v H'
  | some (.ex x) => ∀ cls u dx F' H', RelV cls u → Up F H F' H' → XRep K F' H' x cls dx → E u dx H'
  | none => False
/-- the promise of a def that changes nothing: worth φ of its arguments -/
def spE (K : PySem.W.Frag) (sg : Sig) (φ : Fn) : Sp := fun vs H Q E => ∃ F ds, Same F H ∧ ViewL K F H sg.args ds vs ∧ GF K F H sg.ret Q E (φ ds)
theorem ViewL.len {K : PySem.W.Frag} : ∀ {os : List OT} {ds : List D} {vs : List V}, ViewL K F H os ds vs → vs.length = os.length
  | [], [], _, h => by simp only [ViewL] at h; rw [h]; rfl
  | o :: os, d :: ds, _, h => by
    simp only [ViewL] at h
    obtain ⟨v, r, rfl, _, h2⟩ := h
    rw [List.length_cons, List.length_cons, ViewL.len h2]
  | [], _ :: _, _, h => by simp [ViewL] at h
  | _ :: _, [], _, h => by simp [ViewL] at h
/-- a def that may be called by its name -/
structure Callee (X : Cx) (x : Str) (k : Nat) (sg : Sig) (φ : Fn) : Prop where
  ex : ∃ (f : Addr) (fd : FuncData) (ps : List Str), FnOk X.prog X.w X.K X.mg X.base (L2.CX X.prog X.w) k f fd ps (spE X.K sg φ) ∧ X.mg x = some (.ref f) ∧ PySem.W.keepIn X.K (.ref f) = true ∧ Binds X.K fd ps []
theorem s_call {k : Nat} {sg : Sig} {φ : Fn} (C : Callee X x k sg φ) (hK : X.K = c.K) (hr : Room k X.A) (hg : Gl X x) (tk : Takes X c.W) (ha : PA X (e :: es) (tL c sg.args fs)) (hdb : (x == ("__debug__" : Str)) = false)
    (he : starEach (e :: es) X.env = (false, eval e X.env) :: starEach es X.env) (hpl : (backTo pos (starEach es X.env)).any (·.1) = false) :
    PE X (.Call (.Name x p) (e :: es) [] pos) (tV c sg.ret fun δ => bndL (fs δ) φ) := by
  obtain ⟨f, fd, ps, F, hm, hk, hb⟩ := C.ex
  refine PE.imp (pe_callS F hr hg hm hk hb (fun σ => passAt tk σ) ha hdb he hpl) fun σ H Q h => ?_
  obtain ⟨F, δ, E, h⟩ := h
  refine tL.goV E h fun ds vs F1 H1 u1 E1 w h1 => ?_
  refine ⟨F1, ds, u1.fh, hK ▸ w, ?_⟩
  cases r : φ ds with
  | none => rw [r] at h1; exact h1
  | some r' =>
    rw [r] at h1
    cases r' with
    | ok d => exact hK ▸ h1
    | ex x => exact fun cls u dx F' H' rv up xr => h1 cls u dx F' H' rv up (hK ▸ xr)
end Ev

set_option maxHeartbeats 4000000
namespace Ev
open PySem PySem.Spec PyProof.Rows L2
variable [Wd]
variable {X : Cx} {c : Cp} {F G H F' G' H' : Hp} {σ : L2.St} {δ : Env} {a b e tg : Expr} {es : List Expr} {pos p : Pos} {x : Str} {ta tb tc ty : Ty} {oa ob oc o : OT} {os : List OT} {fa fb fc : Env → Option R} {fs : Env → Option RL}
/-- J yields the items ds, wherever F1 and G1 still stand -/
def WalkOk (K : PySem.W.Frag) (J : It) (F1 G1 : Hp) (ds : List D) : Prop := ∀ F H, Same F1 F → Same F H → Same G1 H → ∀ i : Nat,
  (∀ d, ds[i]? = some d → J.go i H ∧ ∀ x H', J.yld i H x H' → ∃ F', Up F H F' H' ∧ Is K F' d x) ∧ (ds.length ≤ i → J.stop i H)
/-- what keeps the walked thing: it is frozen; it stood at the entry; it stands now -/
inductive Gm where
  | fz | en | nw
def Gm.hp (c : Cp) (H : Hp) : Gm → Hp
  | .fz => fun _ => none
  | .en => c.G
  | .nw => H
def GI (c : Cp) (gm : Gm) (F H : Hp) (σ : L2.St) (R : It → Hp → Prop) : Option RL → Prop
  | some (.ok ds) => ∀ J F' H', Up F H F' H' → WalkOk c.K J F' (gm.hp c H') ds → R J H'
  | some (.ex x) => Bad c F H σ x
  | none => False
def tI (c : Cp) (gm : Gm) (f : Env → Option RL) : TI := fun σ H R => ∃ F δ, c.E F H σ δ ∧ GI c gm F H σ R (f δ)
theorem PI.imp {iter : Expr} {t t' : TI} (h : PI X tg iter t) (i : ∀ σ H Q, t' σ H Q → t σ H Q) : PI X tg iter t' := ⟨fun pins s σ H Q I q => h.run pins s σ H Q I (i σ H Q q)⟩
theorem PI.or {iter : Expr} {t t' : TI} (h : PI X tg iter t) (h' : PI X tg iter t') : PI X tg iter (fun σ H Q => t σ H Q ∨ t' σ H Q) := ⟨fun pins s σ H Q I q => by
  rcases q with q | q
  · exact h.run pins s σ H Q I q
  · exact h'.run pins s σ H Q I q⟩
def itemsD : D → Option (List D)
  | .lst ds => some ds
  | .tup ds => some ds
  | .str z => some (z.cps.toList.map fun q => .str ⟨#[q]⟩)
  | .lck ns => some (ns.map D.int)
  | _ => none
def bndI (r : Option R) (k : D → Option RL) : Option RL := match r with
  | some (.ok d) => k d
  | some (.ex x) => some (.ex x)
  | none => none
def okL : Option (List D) → Option RL
  | some ds => some (.ok ds)
  | none => none
theorem walk_list {K : PySem.W.Frag} {p : Addr} {vs : List V} {ds : List D} {F1 G1 : Hp} (hp : ∀ F H, Same F1 F → Same F H → Same G1 H → SqL K H p vs) (hi : IsL K F1 ds vs) : WalkOk K (Itl K p) F1 G1 ds := fun F H s1 s2 s3 i => by
  refine ⟨fun d hd => ?_, fun hl => ⟨vs, hp F H s1 s2 s3, by rw [hi.length]; exact hl⟩⟩
  obtain ⟨v, hv, hiv⟩ := hi.get hd
  refine ⟨⟨vs, v, hp F H s1 s2 s3, hv⟩, fun x H' y => ?_⟩
  obtain ⟨rfl, y⟩ := y
  have := y vs (hp F _ s1 s2 s3)
  rw [hv] at this
  cases this
  exact ⟨F, Up.refl s2, hiv.mono s1⟩
theorem walk_tup {K : PySem.W.Frag} {p : Addr} {vs : List V} {ds : List D} {F1 G1 : Hp} (hp : ∀ F H, Same F1 F → Same F H → Same G1 H → SqT K H p vs) (hi : IsL K F1 ds vs) : WalkOk K (Itt K p) F1 G1 ds := fun F H s1 s2 s3 i => by
  refine ⟨fun d hd => ?_, fun hl => ⟨vs, hp F H s1 s2 s3, by rw [hi.length]; exact hl⟩⟩
  obtain ⟨v, hv, hiv⟩ := hi.get hd
  refine ⟨⟨vs, v, hp F H s1 s2 s3, hv⟩, fun x H' y => ?_⟩
  obtain ⟨rfl, y⟩ := y
  have := y vs (hp F _ s1 s2 s3)
  rw [hv] at this
  cases this
  exact ⟨F, Up.refl s2, hiv.mono s1⟩
theorem walk_str {K : PySem.W.Frag} {z : Str} {F1 G1 : Hp} (ok : PyData.strOk z = true) : WalkOk K (Its z) F1 G1 (z.cps.toList.map fun q => .str ⟨#[q]⟩) := fun F H s1 s2 s3 i => by
  refine ⟨fun d hd => ?_, fun hl => ?_⟩
  · rw [List.getElem?_map] at hd
    cases e : z.cps.toList[i]? with
    | none => rw [e] at hd; cases hd
    | some q =>
      rw [e] at hd
      cases hd
      have hi : i < z.cps.size := by
        have := (List.getElem?_eq_some_iff.mp e).1
        simpa using this
      refine ⟨hi, fun x H' y => ?_⟩
      obtain ⟨rfl, r, hr, rfl⟩ := y
      have e2 : r = q := by
        rw [Array.getElem?_toList] at e
        rw [e] at hr
        exact (Option.some.inj hr).symm
      subst e2
      refine ⟨F, Up.refl s2, Is.str ?_⟩
      rw [strOk_iff] at ok ⊢
      intro t ht
      have : t = r := by simpa using ht
      subst this
      exact ok _ (List.mem_of_getElem? e)
  · show z.cps.size ≤ i
    simpa using hl
theorem isL_ints {K : PySem.W.Frag} : ∀ ns : List Int, IsL K F (ns.map D.int) (ns.map V.int)
  | [] => by simp [IsL]
  | n :: ns => ⟨.int n, ns.map V.int, rfl, by simp only [Is], isL_ints ns⟩
/-- a list, a tuple, a text walked; the type says what keeps it -/
def gmOf : Ty → Gm
  | .vw .fz => .fz
  | .fr _ => .fz
  | _ => .nw
theorem i_val (hK : X.K = c.K) (ha : PE X e (tV c (.vw o) fa)) (ho : elO o = true) : PI X tg e (tI c (gmOf (.vw o)) fun δ => bndI (fa δ) fun d => okL (itemsD d)) := by
  refine PI.imp (PI.or (pi_list ha) (PI.or (pi_tup ha) (pi_str ha))) fun σ H R h => ?_
  obtain ⟨F, δ, E, h⟩ := h
  change GI c (gmOf (.vw o)) F H σ R (bndI (fa δ) _) at h
  cases e1 : fa δ with
  | none => rw [e1] at h; exact h.elim
  | some r =>
    cases r with
    | ex x => rw [e1] at h; exact .inl ⟨F, δ, E, by rw [e1]; exact h⟩
    | ok d =>
      rw [e1] at h
      have start : ∀ {Q1 : VK}, (∀ v F1 H1, Up F H F1 H1 → (∃ A, Own c.K F1 H1 o d v A) → Q1 v H1) → tV c (.vw o) fa σ H Q1 := fun k => ⟨F, δ, E, by rw [e1]; exact fun v F1 H1 u p => k v F1 H1 u p⟩
      cases d with
      | lst ds =>
        refine .inl (start fun v F1 H1 u ⟨A, hx⟩ => ?_)
        obtain ⟨p, vs, rfl, hp, hi⟩ := hx.lstF ho u.fh
        refine ⟨p, rfl, ⟨vs, SqL.of hp⟩, h _ F1 H1 u ?_⟩
        rw [← hK]
        refine walk_list (fun F2 H2 s1 s2 s3 => ?_) (by rw [hK]; exact hi)
        cases o with
        | fz =>
          have q := hx.is
          simp only [Is] at q
          obtain ⟨p', vs', e2, hp', _⟩ := q
          cases e2
          have e3 := u.fh _ _ hp'
          rw [hp] at e3; cases e3
          exact SqL.of (s2 _ _ (s1 _ _ hp'))
        | bw => exact SqL.of (s3 _ _ hp)
        | lst o' => exact SqL.of (s3 _ _ hp)
        | dic => simp [Own] at hx
        | dct => simp [Own] at hx
        | ins os => cases ho
        | lsh os => cases ho
      | tup ds =>
        refine .inr (.inl (start fun v F1 H1 u ⟨A, hx⟩ => ?_))
        have q : Is c.K F1 (.tup ds) v := hx.scal rfl
        simp only [Is] at q
        obtain ⟨p, vs, rfl, hp, hi⟩ := q
        refine ⟨p, rfl, ⟨vs, (hp.mono u.fh).sq⟩, h _ F1 H1 u ?_⟩
        rw [← hK]
        exact walk_tup (fun F2 H2 s1 s2 s3 => ((hp.mono s1).mono s2).sq) (by rw [hK]; exact hi)
      | str z =>
        refine .inr (.inr (start fun v F1 H1 u ⟨A, hx⟩ => ?_))
        have q := hx.scal rfl
        simp only [Is] at q
        exact ⟨z, q.1, h _ F1 H1 u (walk_str q.2)⟩
      | lck ns =>
        refine .inl (start fun v F1 H1 u ⟨A, hx⟩ => ?_)
        have q := hx.scal rfl
        simp only [Is] at q
        obtain ⟨p, rfl, hp⟩ := q
        refine ⟨p, rfl, ⟨_, hK ▸ u.fh.seq hp⟩, h _ F1 H1 u ?_⟩
        rw [← hK]
        exact walk_list (vs := ns.map V.int) (fun F2 H2 s1 s2 s3 => s2.seq (s1.seq (hK ▸ hp))) (isL_ints ns)
      | _ => exact h.elim
/-- range(a), range(a, b) -/
def rngD (lo hi : Int) : List D := (List.range (hi - lo).toNat).map fun i : Nat => D.int (lo + i)
theorem walk_rng {K : PySem.W.Frag} {lo hi : Int} {F1 G1 : Hp} : WalkOk K (Itr lo (hi - lo).toNat) F1 G1 (rngD lo hi) := fun F H s1 s2 s3 i => by
  refine ⟨fun d hd => ?_, fun hl => ?_⟩
  · unfold rngD at hd
    rw [List.getElem?_map] at hd
    cases e : (List.range (hi - lo).toNat)[i]? with
    | none => rw [e] at hd; cases hd
    | some q =>
      rw [e] at hd
      cases hd
      obtain ⟨h1, h2⟩ := List.getElem?_eq_some_iff.mp e
      rw [List.getElem_range] at h2
      subst h2
      refine ⟨(by rw [List.length_range] at h1; exact h1 : i < (hi - lo).toNat), fun x H' y => ?_⟩
      obtain ⟨rfl, rfl⟩ := y
      exact ⟨F, Up.refl s2, by simp only [Is]⟩
  · show (hi - lo).toNat ≤ i
    unfold rngD at hl
    simpa using hl
def rngOk (lo hi : Int) : Option (List D) := if decide (-1000000 ≤ lo) && decide (lo ≤ 1000000) && decide (-1000000 ≤ hi) && decide (hi ≤ 1000000) then some (rngD lo hi) else none
theorem rngOk_some {lo hi : Int} {ds : List D} (h : rngOk lo hi = some ds) : ds = rngD lo hi ∧ -1000000 ≤ lo ∧ lo ≤ 1000000 ∧ -1000000 ≤ hi ∧ hi ≤ 1000000 := by
  unfold rngOk at h
  by_cases g : (decide (-1000000 ≤ lo) && decide (lo ≤ 1000000) && decide (-1000000 ≤ hi) && decide (hi ≤ 1000000)) = true
  · rw [if_pos g] at h
    cases h
    simp only [Bool.and_eq_true, decide_eq_true_eq] at g
    exact ⟨rfl, g.1.1.1, g.1.1.2, g.1.2, g.2⟩
  · rw [if_neg g] at h; cases h
def rngF1 (d : D) : Option (List D) := match d with
  | .int j => rngOk 0 j
  | _ => none
theorem tV.goI {ta : Ty} {oa : OT} {fa : Env → Option R} {Q1 : VK} {gm : Gm} {Rr : It → Hp → Prop} {k : D → Option RL} (co : coe ta oa = true) (E : c.E F H σ δ) (h : GI c gm F H σ Rr (bndI (fa δ) k))
    (hk : ∀ d v F1 H1, Up F H F1 H1 → c.E F1 H1 σ δ → (∃ A, Own c.K F1 H1 oa d v A) → GI c gm F1 H1 σ Rr (k d) → Q1 v H1) : tV c ta fa σ H Q1 := by
  refine ⟨F, δ, E, ?_⟩
  cases e : fa δ with
  | none => rw [e] at h; exact h
  | some r =>
    rw [e] at h
    cases r with
    | ex x => exact h
    | ok d =>
      intro v F1 H1 u p
      obtain ⟨F2, u2, s2, A, o⟩ := p.coe u co
      refine hk d v F2 H1 u2 (E.up u2) ⟨A, o⟩ ?_
      change GI c gm F H σ Rr (k d) at h
      cases e2 : k d with
      | none => rw [e2] at h; exact h
      | some r =>
        rw [e2] at h
        cases r with
        | ex x => exact Bad.up h u2
        | ok ds => exact fun J F' H' u3 w => h J F' H' (u2.trans u3) w
theorem i_rng1 {pr : Pos} (ha : PE X a (tV c ta fa)) (ca : coe ta .bw = true) (hg : Gl X "range") (hm : X.mg "range" = none) (hs : starEach [a] X.env = [(false, eval a X.env)]) :
    PI X tg (.Call (.Name "range" pr) [a] [] pos) (tI c .fz fun δ => bndI (fa δ) fun d => okL (rngF1 d)) := by
  refine PI.imp (pi_range1 hg hm (pa_cons ha pa_nil hs) hs) fun σ H R h => ?_
  obtain ⟨F, δ, E, h⟩ := h
  refine tV.goI ca E h fun d v F1 H1 u1 E1 hx h1 => ?_
  obtain ⟨A, hx⟩ := hx
  cases d with
  | int j =>
    cases e : rngOk 0 j with
    | none => simp only [rngF1, e] at h1; exact h1.elim
    | some ds =>
      simp only [rngF1, e] at h1
      obtain ⟨rfl, a1, a2, a3, a4⟩ := rngOk_some e
      refine ⟨j, by rw [hx.int], by omega, by omega, ?_⟩
      have w := h1 (Itr 0 (j - 0).toNat) F1 H1 (Up.refl u1.fh) walk_rng
      rw [show (j - 0).toNat = j.toNat by rw [Int.sub_zero]] at w
      exact w
  | _ => exact h1.elim
def rngF2 (d d' : D) : Option (List D) := match d, d' with
  | .int i, .int j => rngOk i j
  | _, _ => none
theorem i_rng2 {pr : Pos} (ha : PE X a (tV c ta fa)) (hb : PE X b (tV c tb fb)) (ca : coe ta .bw = true) (cb : coe tb .bw = true) (hg : Gl X "range") (hm : X.mg "range" = none)
    (hs : starEach [a, b] X.env = [(false, eval a X.env), (false, eval b X.env)]) (hs2 : starEach [b] X.env = [(false, eval b X.env)]) :
    PI X tg (.Call (.Name "range" pr) [a, b] [] pos) (tI c .fz fun δ => bndI (fa δ) fun d => bndI (fb δ) fun d' => okL (rngF2 d d')) := by
  refine PI.imp (pi_range2 hg hm (pa_cons ha (pa_cons hb pa_nil hs2) (by rw [hs, hs2])) hs hs2) fun σ H R h => ?_
  obtain ⟨F, δ, E, h⟩ := h
  refine tV.goI ca E h fun d v F1 H1 u1 E1 hx h1 => ?_
  refine tV.goI cb E1 h1 fun d' v' F2 H2 u2 E2 hy h2 => ?_
  obtain ⟨A, hx⟩ := hx
  obtain ⟨B, hy⟩ := hy
  cases d with
  | int i =>
    cases d' with
    | int j =>
      cases e : rngOk i j with
      | none => simp only [rngF2, e] at h2; exact h2.elim
      | some ds =>
        simp only [rngF2, e] at h2
        obtain ⟨rfl, a1, a2, a3, a4⟩ := rngOk_some e
        exact ⟨i, j, by rw [hx.int, hy.int], ⟨by omega, by omega, by omega, by omega⟩, h2 _ F2 H2 (Up.refl u2.fh) walk_rng⟩
    | _ => exact h2.elim
  | _ => exact h2.elim
inductive Tg where
  | nm (i : Nat) | tp (ts : List Tg)
mutual
def bindT : Tg → D → Env → Option Env
  | .nm i, d, δ => some (δ.set i (some d))
  | .tp ts, .tup ds, δ => bindTs ts ds δ
  | .tp ts, .lst ds, δ => bindTs ts ds δ
  | .tp _, _, _ => none
def bindTs : List Tg → List D → Env → Option Env
  | [], [], δ => some δ
  | t :: ts, d :: ds, δ => (bindT t d δ).bind fun δ1 => bindTs ts ds δ1
  | _, _, _ => none
end
mutual
def tgSlots : Tg → List Nat
  | .nm i => [i]
  | .tp ts => tgSlotsL ts
def tgSlotsL : List Tg → List Nat
  | [] => []
  | t :: ts => tgSlots t ++ tgSlotsL ts
end
def Agree (vs : List Nat) (σ σ' : L2.St) : Prop := σ'.length = σ.length ∧ ∀ j, j ∉ vs → σ'[j]? = σ[j]?
theorem wipe_get {σ : L2.St} {j : Nat} : ∀ {vs : List Nat}, (wipe σ vs)[j]? = if j ∈ vs then (if j < σ.length then some none else none) else σ[j]?
  | [] => by simp [wipe]
  | v :: vs => by
    unfold wipe
    rw [List.getElem?_set, wipe_length, wipe_get (vs := vs)]
    by_cases h : v = j
    · subst h
      simp
    · rw [if_neg h]
      have : (j ∈ v :: vs) ↔ j ∈ vs := by
        simp only [List.mem_cons]
        exact ⟨fun z => z.resolve_left (fun e => h e.symm), .inr⟩
      simp only [this]
theorem Agree.wipe {vs ws : List Nat} {σ σ' : L2.St} (a : Agree vs σ σ') (h : ∀ j ∈ vs, j ∈ ws) : wipe σ' ws = wipe σ ws := by
  apply List.ext_getElem?
  intro j
  rw [wipe_get, wipe_get, a.1]
  by_cases hj : j ∈ ws
  · rw [if_pos hj, if_pos hj]
  · rw [if_neg hj, if_neg hj, a.2 j fun z => hj (h j z)]
def tG (c : Cp) (t : Tg) : TG := fun v σ H Q => ∃ F δ d δ', c.E F H σ δ ∧ Is c.K F d v ∧ bindT t d δ = some δ' ∧ ∀ σ', Agree (tgSlots t) σ σ' → c.E F H σ' δ' → Q σ' H
def tGs (c : Cp) (ts : List Tg) : TGs := fun vs σ H Q => ∃ F δ ds δ', c.E F H σ δ ∧ IsL c.K F ds vs ∧ bindTs ts ds δ = some δ' ∧ ∀ σ', Agree (tgSlotsL ts) σ σ' → c.E F H σ' δ' → Q σ' H
theorem PG.imp {t t' : TG} (h : PG X tg t) (i : ∀ v σ H Q, t' v σ H Q → t v σ H Q) : PG X tg t' := ⟨fun pins s σ H v u Q I r q => h.run pins s σ H v u Q I r (i v σ H Q q)⟩
theorem PGs.imp {t t' : TGs} (h : PGs X es t) (i : ∀ v σ H Q, t' v σ H Q → t v σ H Q) : PGs X es t' := ⟨fun pins s σ H v u Q I r q => h.run pins s σ H v u Q I r (i v σ H Q q)⟩
theorem g_nm {i : Nat} (hN : X.N.Nodup) (hi : X.N[i]? = some x) (hx : Loc X.env.scope x) (hf : X.fn x = true ∨ X.env.scope.names.lookup x = some .local) (hk : c.Ks[i]? = some (.ve .fz)) : PG X (.Name x pos) (tG c (.nm i)) := by
  refine PG.imp (pg_name hN hi hx hf) fun v σ H Q h => ?_
  obtain ⟨F, δ, d, δ', E, hd, e, q⟩ := h
  simp only [bindT] at e
  cases e
  refine q _ ⟨by rw [List.length_set], fun j hj => ?_⟩ (EnvOk.setVe E hk hd)
  rw [List.getElem?_set_ne]
  simp only [tgSlots, List.mem_singleton] at hj
  exact fun z => hj z.symm
theorem gs_nil : PGs X [] (tGs c []) := by
  refine PGs.imp pgs_nil fun vs σ H Q h => ?_
  obtain ⟨F, δ, ds, δ', E, hd, e, q⟩ := h
  cases ds with
  | nil =>
    simp only [bindTs] at e
    cases e
    simp only [IsL] at hd
    exact ⟨hd, q _ ⟨rfl, fun _ _ => rfl⟩ E⟩
  | cons _ _ => simp [bindTs] at e
theorem gs_cons {t : Tg} {ts : List Tg} (h1 : PG X e (tG c t)) (h2 : PGs X es (tGs c ts)) (hs : (assignEach (e :: es) X.env).map (·.2) = assign e X.env :: (assignEach es X.env).map (·.2)) : PGs X (e :: es) (tGs c (t :: ts)) := by
  refine PGs.imp (pgs_cons h1 h2 hs) fun vs σ H Q h => ?_
  obtain ⟨F, δ, ds, δ', E, hd, e, q⟩ := h
  cases ds with
  | nil => simp [bindTs] at e
  | cons d ds =>
    simp only [bindTs] at e
    cases e1 : bindT t d δ with
    | none => rw [e1] at e; cases e
    | some δ1 =>
      rw [e1] at e
      simp only [IsL] at hd
      obtain ⟨v, r, rfl, i1, i2⟩ := hd
      refine ⟨v, r, rfl, F, δ, d, δ1, E, i1, e1, fun σ1 a1 E1 => ⟨F, δ1, ds, δ', E1, i2, e, fun σ2 a2 E2 => q σ2 ⟨a2.1.trans a1.1, fun j hj => ?_⟩ E2⟩⟩
      simp only [tgSlotsL, List.mem_append, not_or] at hj
      rw [a2.2 j hj.2, a1.2 j hj.1]
theorem bindTs_len : ∀ {ts : List Tg} {ds : List D} {δ δ' : Env}, bindTs ts ds δ = some δ' → ds.length = ts.length
  | [], [], _, _, _ => rfl
  | t :: ts, d :: ds, δ, δ', h => by
    simp only [bindTs] at h
    cases e1 : bindT t d δ with
    | none => rw [e1] at h; cases h
    | some δ1 =>
      rw [e1] at h
      rw [List.length_cons, List.length_cons, bindTs_len (show bindTs ts ds δ1 = some δ' from h)]
  | [], _ :: _, _, _, h => by simp [bindTs] at h
  | _ :: _, [], _, _, h => by simp [bindTs] at h
theorem PG.or {t t' : TG} (h : PG X tg t) (h' : PG X tg t') : PG X tg (fun v σ H Q => t v σ H Q ∨ t' v σ H Q) := ⟨fun pins s σ H v u Q I r q => q.elim (h.run pins s σ H v u Q I r) (h'.run pins s σ H v u Q I r)⟩
theorem g_tp {k : Nat} {ts : List Tg} (hK : X.K = c.K) (hc : X.calm = true) (h : PGs X es (tGs c ts)) (hn : (assignEach es X.env).length = ts.length) (hst : (assignEach es X.env).findIdx? (·.1) = none) : PG X (.Tuple es k pos) (tG c (.tp ts)) := by
  refine PG.imp (PG.or (pg_tup hc h hn hst) (pg_unl hc h hn hst)) fun v σ H Q h => ?_
  obtain ⟨F, δ, d, δ', E, hd, e, q⟩ := h
  cases d with
  | tup ds =>
    simp only [bindT] at e
    simp only [Is] at hd
    obtain ⟨p, vs, rfl, hp, hi⟩ := hd
    exact .inl ⟨p, vs, rfl, (hp.mono E.fh).sq, by rw [hi.length, bindTs_len e], F, δ, ds, δ', E, hi, e, q⟩
  | lst ds =>
    simp only [bindT] at e
    simp only [Is] at hd
    obtain ⟨p, vs, rfl, hp, hi⟩ := hd
    exact .inr ⟨p, vs, rfl, SqL.of (E.fh _ _ hp), by rw [hi.length, bindTs_len e], F, δ, ds, δ', E, hi, e, q⟩
  | _ => simp [bindT] at e
def tstD (tst : Option (Env → Option R)) (δ : Env) : Option Bool := match tst with
  | none => some true
  | some f => match f δ with
    | some (.ok (.bl b)) => some b
    | _ => none
def eltD (elt : Env → Option R) (δ : Env) : Option D := match elt δ with
  | some (.ok e) => some e
  | _ => none
def lcGo (t : Tg) (tst : Option (Env → Option R)) (elt : Env → Option R) (δ : Env) : List D → Option (List D)
  | [] => some []
  | d :: ds => (bindT t d δ).bind fun δ1 => (tstD tst δ1).bind fun b =>
    if b then (eltD elt δ1).bind fun e => (lcGo t tst elt δ ds).map (e :: ·) else lcGo t tst elt δ ds
def unsetL (δ : Env) : List Nat → Env
  | [] => δ
  | v :: vs => (unsetL δ vs).set v none
theorem EnvOk.wipe {K : PySem.W.Frag} {Ks : List Kd} {F0 : Hp} (E : EnvOk K Ks F0 G F H σ δ) : ∀ vs : List Nat, EnvOk K Ks F0 G F H (L2.wipe σ vs) (unsetL δ vs)
  | [] => E
  | v :: vs => (EnvOk.wipe E vs).unsetS v none
def Cp.quiet (c : Cp) : Cp := { c with W := fun _ _ _ _ => False }
def tTo (c : Cp) : Option (Env → Option R) → TT
  | none => tYes
  | some f => tT c f
theorem drop_get {α : Type} {l : List α} {i : Nat} {x : α} (h : l[i]? = some x) : l.drop i = x :: l.drop (i + 1) := by
  obtain ⟨h1, h2⟩ := List.getElem?_eq_some_iff.mp h
  rw [List.drop_eq_getElem_cons h1, h2]
theorem bind_some {α β : Type} {r : Option α} {k : α → Option β} {y : β} (h : r.bind k = some y) : ∃ x, r = some x ∧ k x = some y := by
  cases r with
  | none => cases h
  | some x => exact ⟨x, rfl, h⟩
def lcD (t : Tg) (tst : Option (Env → Option R)) (elt : Env → Option R) (δ : Env) (ds : List D) : Option D :=
  if ds.length < sizeLine then (lcGo t tst elt δ ds).map D.lst else none
/-- the turns -/
theorem lc_turns {gm : Gm} {J : It} {ds es : List D} {t : Tg} {tst : Option (Env → Option R)} {elt : Env → Option R} {own : List Nat} {ety : Ty} {F1 H1 : Hp} {D0 : Addr} {Q : Hp → Prop} (E1 : c.E F1 H1 σ δ) (w : WalkOk c.K J F1 (gm.hp c H1) ds)
    (hD : H1 D0 = none) (hz : ds.length < sizeLine) (ce : coe ety .fz = true) (hw : ∀ j ∈ tgSlots t, j ∈ own) (hl : lcGo t tst elt (unsetL δ own) ds = some es)
    (hq : ∀ F H acc, Up F1 H1 F H → F D0 = none → H D0 = some (.lst acc) → IsL c.K F es acc → Q H) :
    ∃ W : Nat → Nat → Hp → Prop, (∃ m, W 0 m (upd H1 D0 (.lst []))) ∧ ∀ i m H, W i m H → (J.stop i H ∧ Q H) ∨ (J.go i H ∧ ∃ Nx : Hp → Prop, (∀ H', Nx H' → ∃ m', m' < m ∧ W (i + 1) m' H') ∧
      ∀ x H', J.yld i H x H' → tG c.quiet t x (L2.wipe σ own) H' fun σ2 H2 => L2.wipe σ2 own = L2.wipe σ own ∧ tTo c.quiet tst σ2 H2 fun b H3 =>
        if b = true then tV c.quiet ety elt σ2 H3 fun y H4 => ∃ acc, H4 D0 = some (.lst acc) ∧ acc.length < sizeLine ∧ Nx (upd H4 D0 (.lst (acc ++ [y]))) else Nx H3) := by
  have fD : F1 D0 = none := by
    cases q : F1 D0 with
    | none => rfl
    | some u => rw [E1.fh _ _ q] at hD; cases hD
  refine ⟨fun i m H => m = ds.length - i ∧ i ≤ ds.length ∧ ∃ F acc accD rest, Up F1 H1 F H ∧ F D0 = none ∧ H D0 = some (.lst acc) ∧ IsL c.K F accD acc ∧ accD.length ≤ i ∧ lcGo t tst elt (unsetL δ own) (ds.drop i) = some rest ∧ accD ++ rest = es,
    ⟨ds.length, by simp, Nat.zero_le _, F1, [], [], es, Up.new E1.fh hD, fD, upd_same, by simp [IsL], by simp, by simpa using hl, rfl⟩, ?_⟩
  rintro i m H ⟨rfl, hi, F, acc, accD, rest, u, f0, hacc, hia, hle, hgo, hes⟩
  have s3 : Same (gm.hp c H1) H := by
    cases gm with
    | fz => exact fun _ _ e => nomatch e
    | en => exact E1.gh.trans u.hh
    | nw => exact u.hh
  obtain ⟨w1, w2⟩ := w F H u.ff u.fh s3 i
  by_cases hlt : i < ds.length
  · have hd : ds[i]? = some ds[i] := List.getElem?_eq_getElem hlt
    obtain ⟨go, y1⟩ := w1 _ hd
    refine .inr ⟨go, fun H' => ((fun i m H => m = ds.length - i ∧ i ≤ ds.length ∧ ∃ F acc accD rest, Up F1 H1 F H ∧ F D0 = none ∧ H D0 = some (.lst acc) ∧ IsL c.K F accD acc ∧ accD.length ≤ i ∧ lcGo t tst elt (unsetL δ own) (ds.drop i) = some rest ∧ accD ++ rest = es) (i + 1) (ds.length - (i + 1)) H' : Prop), fun H' n => ⟨_, by omega, n⟩, fun x H' y => ?_⟩
    obtain ⟨F', u', hx⟩ := y1 x H' y
    rw [drop_get hd] at hgo
    obtain ⟨δ1, e1, hgo⟩ := bind_some hgo
    obtain ⟨b, e2, hgo⟩ := bind_some hgo
    have E0 : c.quiet.E F' H' (L2.wipe σ own) (unsetL δ own) := (EnvOk.wipe E1 own).up (u.trans u')
    have hh0 : H D0 ≠ none := by rw [hacc]; simp
    refine ⟨F', unsetL δ own, ds[i], δ1, E0, hx, e1, fun σ2 a2 E2 => ⟨a2.wipe hw |>.trans (by
      apply List.ext_getElem?
      intro j
      rw [wipe_get, wipe_get, wipe_length]
      by_cases hj : j ∈ own
      · rw [if_pos hj, if_pos hj]
      · rw [if_neg hj, if_neg hj]), ?_⟩⟩
    -- the test
    have goOn : ∀ F3 H3, Up F' H' F3 H3 → (if b = true then tV c.quiet ety elt σ2 H3 fun y H4 => ∃ acc, H4 D0 = some (.lst acc) ∧ acc.length < sizeLine ∧ ((fun i m H => m = ds.length - i ∧ i ≤ ds.length ∧ ∃ F acc accD rest, Up F1 H1 F H ∧ F D0 = none ∧ H D0 = some (.lst acc) ∧ IsL c.K F accD acc ∧ accD.length ≤ i ∧ lcGo t tst elt (unsetL δ own) (ds.drop i) = some rest ∧ accD ++ rest = es) (i + 1) (ds.length - (i + 1)) (upd H4 D0 (.lst (acc ++ [y]))) : Prop)
        else ((fun i m H => m = ds.length - i ∧ i ≤ ds.length ∧ ∃ F acc accD rest, Up F1 H1 F H ∧ F D0 = none ∧ H D0 = some (.lst acc) ∧ IsL c.K F accD acc ∧ accD.length ≤ i ∧ lcGo t tst elt (unsetL δ own) (ds.drop i) = some rest ∧ accD ++ rest = es) (i + 1) (ds.length - (i + 1)) H3 : Prop)) := fun F3 H3 u3 => by
      have u4 := (u.trans u').trans u3
      have f3 : F3 D0 = none := u3.fr _ (u'.fr _ f0 hh0) (Same.some u'.hh hh0)
      have h3 : H3 D0 = some (.lst acc) := u3.hh _ _ (u'.hh _ _ hacc)
      cases b with
      | false =>
        rw [if_neg (by decide)] at hgo
        rw [if_neg (by decide)]
        exact ⟨rfl, hlt, F3, acc, accD, rest, u4, f3, h3, (hia.mono u'.ff).mono u3.ff, by omega, hgo, hes⟩
      | true =>
        rw [if_pos rfl] at hgo
        rw [if_pos rfl]
        obtain ⟨e, e3, hgo⟩ := bind_some hgo
        cases e4 : lcGo t tst elt (unsetL δ own) (ds.drop (i + 1)) with
        | none => rw [e4] at hgo; cases hgo
        | some rest' =>
          rw [e4] at hgo
          cases hgo
          refine ⟨F3, δ1, E2.up u3, ?_⟩
          unfold eltD at e3
          cases e5 : elt δ1 with
          | none => rw [e5] at e3; cases e3
          | some r =>
            rw [e5] at e3
            cases r with
            | ex x => cases e3
            | ok e' =>
              cases e3
              intro y F4 H4 u5 p
              obtain ⟨F5, u6, s5, A, ow⟩ := Post.coe (c := c) p u5 ce
              have f5 : F5 D0 = none := u6.fr _ f3 (by rw [h3]; simp)
              refine ⟨acc, u6.hh _ _ h3, ?_, rfl, hlt, F5, acc ++ [y], accD ++ [e], rest', ?_, f5, upd_same, ?_, ?_, e4, by rw [List.append_assoc]; exact hes⟩
              · rw [hia.length]; omega
              · have u7 := u4.trans u6
                refine ⟨u7.ff, fun a o q => ?_, u7.fr, fun a o q => ?_⟩
                · rw [upd_ne (ne_of_none q hD)]; exact u7.hh a o q
                · rw [upd_ne (ne_of_none q f5)]; exact u7.fh a o q
              · exact (((hia.mono u'.ff).mono u3.ff).mono u6.ff).append ⟨y, [], rfl, ow.is, rfl⟩
              · rw [List.length_append, List.length_singleton]; omega
    cases tst with
    | none =>
      cases e2
      exact goOn F' H' (Up.refl u'.fh)
    | some f =>
      refine ⟨F', δ1, E2, ?_⟩
      simp only [tstD] at e2
      cases e5 : f δ1 with
      | none => rw [e5] at e2; cases e2
      | some r =>
        rw [e5] at e2
        cases r with
        | ex x => cases e2
        | ok d =>
          cases d with
          | bl b' =>
            cases e2
            exact fun F3 H3 u3 => goOn F3 H3 u3
          | _ => cases e2
  · have e : i = ds.length := by omega
    subst e
    rw [List.drop_length] at hgo
    cases hgo
    rw [List.append_nil] at hes
    subst hes
    exact .inl ⟨w2 (Nat.le_refl _), hq F H acc u f0 hacc hia⟩
/-- [elt for t in iter if tst] -/
theorem s_lc {elt tgE iter : Expr} {ifs : List Expr} {scope : Scope} {own : List (Str × Nat)} {gm : Gm} {t : Tg} {tst : Option (Env → Option R)} {fe : Env → Option R} {fi : Env → Option RL} {ety : Ty}
    (hc : X.calm = true) (hN : X.N.Nodup) (hi : PI X tgE iter (tI c gm fi)) (ok : BlkOk X.N X.env.scope scope own)
    (hg : ∀ (s : Shared) (H : Hp) (C : Addr) (cl : List (Str × Addr)) (fp : List Addr), PG (X.blk s H scope (compEnvC scope cl C X.env) fp) tgE (tG c.quiet t))
    (ht : ∀ (s : Shared) (H : Hp) (C : Addr) (cl : List (Str × Addr)) (fp : List Addr), PTs (X.blk s H scope (compEnvC scope cl C X.env) fp) ifs (tTo c.quiet tst))
    (he : ∀ (s : Shared) (H : Hp) (C : Addr) (cl : List (Str × Addr)) (fp : List Addr), PE (X.blk s H scope (compEnvC scope cl C X.env) fp) elt (tV c.quiet ety fe))
    (ce : coe ety .fz = true) (hw : ∀ j ∈ tgSlots t, j ∈ own.map (·.2)) (hs : ∀ x, foldedSetIterable iter X.env x = pure x) :
    PE X (.ListComp elt [⟨tgE, iter, ifs, 0⟩] scope pos) (tV c (.fr (.lst .fz)) fun δ => bndL (fi δ) fun ds => okO (lcD t tst fe (unsetL δ (own.map (·.2))) ds)) := by
  refine PE.imp (pe_lc hc hN hi ok hg ht he hs) fun σ H Q h => ?_
  obtain ⟨F, δ, E, h⟩ := h
  change Gv c _ F H σ Q (bndL (fi δ) _) at h
  refine ⟨F, δ, E, ?_⟩
  cases e : fi δ with
  | none => rw [e] at h; exact h
  | some r =>
    rw [e] at h
    cases r with
    | ex x => exact h
    | ok ds =>
      intro J F1 H1 u w D0 hD
      change Gv c _ F H σ Q (okO (lcD t tst fe (unsetL δ (own.map (·.2))) ds)) at h
      obtain ⟨d, e1, q⟩ := h.okT
      unfold lcD at e1
      by_cases hz : ds.length < sizeLine
      · rw [if_pos hz] at e1
        cases e2 : lcGo t tst fe (unsetL δ (own.map (·.2))) ds with
        | none => rw [e2] at e1; cases e1
        | some es =>
          rw [e2] at e1
          cases e1
          refine lc_turns (E.up u) w hD hz ce hw e2 fun F3 H3 acc u3 f3 h3 i3 => q _ F3 H3 (u.trans u3) ⟨[D0], ?_, by simp, fun a ha => ?_⟩
          · simp only [Own]
            exact ⟨D0, acc, [], rfl, h3, OwnL.of_fz i3, rfl⟩
          · have z : a = D0 := by simpa using ha
            subst z
            exact ⟨u.hh.free hD, f3⟩
      · rw [if_neg hz] at e1; cases e1
end Ev

set_option maxHeartbeats 4000000
namespace Ev
open PySem PySem.Spec PyProof.Rows L2
variable [Wd]
variable {X : Cx} {c : Cp} {F G H F' G' H' : Hp} {σ : L2.St} {δ : Env} {a b e tg : Expr} {es : List Expr} {pos p : Pos} {x : Str} {ta tb tc ty rt : Ty} {oa ob oc o : OT} {os : List OT} {fa fb fc : Env → Option R} {fs : Env → Option RL} {st : Stmt} {ss : List Stmt}
inductive Out where
  | nx (δ : Env) | ret (d : D) (δ : Env) | brk (δ : Env) | ct (δ : Env) | ex (x : Xd) (δ : Env)
abbrev So := Env → Option Out
/-- what is wanted of an outcome; F: what was frozen ahead -/
def Gs (c : Cp) (rt : Ty) (F : Hp) (D : Ends) : Option Out → Prop
  | some (.nx δ) => ∀ σ F' H', Same F F' → c.E F' H' σ δ → D.nx σ H'
  | some (.brk δ) => ∀ σ F' H', Same F F' → c.E F' H' σ δ → D.bk σ H'
  | some (.ct δ) => ∀ σ F' H', Same F F' → c.E F' H' σ δ → D.ct σ H'
  | some (.ret d δ) => ∀ v σ F' H', c.E F' H' σ δ → Post c.K c.G F' H' rt d v → D.rt v H'
  | some (.ex x δ) => ∀ cls u dx σ F' H', RelV cls u → Same F F' → c.E F' H' σ δ → XRep c.K F' H' x cls dx → c.W u dx σ H'
  | none => False
def tS (c : Cp) (rt : Ty) (g : So) : TS := fun D σ H => ∃ F δ, c.E F H σ δ ∧ Gs c rt F D (g δ)
theorem Gs.up {D : Ends} {r : Option Out} (g : Gs c rt F D r) (s : Same F F') : Gs c rt F' D r := by
  cases r with
  | none => exact g
  | some r =>
    cases r with
    | nx δ => exact fun σ F2 H2 s2 E => g σ F2 H2 (s.trans s2) E
    | brk δ => exact fun σ F2 H2 s2 E => g σ F2 H2 (s.trans s2) E
    | ct δ => exact fun σ F2 H2 s2 E => g σ F2 H2 (s.trans s2) E
    | ret d δ => exact g
    | ex x δ => exact fun cls u dx σ F2 H2 r s2 E => g cls u dx σ F2 H2 r (s.trans s2) E
theorem PS.imp {t t' : TS} (h : PS X st t) (i : ∀ D σ H, t' D σ H → t D σ H) : PS X st t' := ⟨fun pins s σ H D I q => h.run pins s σ H D I (i D σ H q)⟩
theorem PSs.imp {t t' : TS} (h : PSs X ss t) (i : ∀ D σ H, t' D σ H → t D σ H) : PSs X ss t' := ⟨fun pins s σ H D I q => h.run pins s σ H D I (i D σ H q)⟩
def seqO (r : Option Out) (k : So) : Option Out := match r with
  | some (.nx δ) => k δ
  | r => r
theorem ss_nil : PSs X [] (tS c rt fun δ => some (.nx δ)) := by
  refine PSs.imp pss_nil fun D σ H h => ?_
  obtain ⟨F, δ, E, h⟩ := h
  exact h σ F H (Same.refl _) E
theorem ss_cons {g k : So} (h1 : PS X st (tS c rt g)) (h2 : PSs X ss (tS c rt k)) : PSs X (st :: ss) (tS c rt fun δ => seqO (g δ) k) := by
  refine PSs.imp (pss_cons h1 h2) fun D σ H h => ?_
  obtain ⟨F, δ, E, h⟩ := h
  refine ⟨F, δ, E, ?_⟩
  change Gs c rt F D (seqO (g δ) k) at h
  cases e : g δ with
  | none => rw [e] at h; exact h
  | some r =>
    rw [e] at h
    cases r with
    | nx δ1 => exact fun σ1 F1 H1 s1 E1 => ⟨F1, δ1, E1, Gs.up h s1⟩
    | brk δ => exact h
    | ct δ => exact h
    | ret d δ => exact h
    | ex x δ => exact h
def bndS (r : Option R) (δ : Env) (k : D → Option Out) : Option Out := match r with
  | some (.ok d) => k d
  | some (.ex x) => some (.ex x δ)
  | none => none
theorem Gs.bad {D : Ends} {x : Xd} (g : Gs c rt F D (some (.ex x δ))) (E : c.E F H σ δ) : Bad c F H σ x := fun cls u dx F' H' r up xr => g cls u dx σ F' H' r up.ff (E.up up) xr
theorem tV.goS {D : Ends} {Q1 : VK} {k : Ev.D → Option Out} (co : coe ta oa = true) (E : c.E F H σ δ) (h : Gs c rt F D (bndS (fa δ) δ k))
    (hk : ∀ d v F1 H1, Up F H F1 H1 → c.E F1 H1 σ δ → (∃ A, Own c.K F1 H1 oa d v A) → Gs c rt F1 D (k d) → Q1 v H1) : tV c ta fa σ H Q1 := by
  refine ⟨F, δ, E, ?_⟩
  cases e : fa δ with
  | none => rw [e] at h; exact h.elim
  | some r =>
    rw [e] at h
    cases r with
    | ex x => exact Gs.bad h E
    | ok d =>
      intro v F1 H1 u p
      obtain ⟨F2, u2, s2, A, ow⟩ := p.coe u co
      exact hk d v F2 H1 u2 (E.up u2) ⟨A, ow⟩ (Gs.up h u2.ff)
/-- the value as it comes -/
theorem tV.goP {D : Ends} {Q1 : VK} {k : Ev.D → Option Out} (E : c.E F H σ δ) (h : Gs c rt F D (bndS (fa δ) δ k))
    (hk : ∀ d v F1 H1, Up F H F1 H1 → c.E F1 H1 σ δ → Post c.K H F1 H1 ta d v → Gs c rt F1 D (k d) → Q1 v H1) : tV c ta fa σ H Q1 := by
  refine ⟨F, δ, E, ?_⟩
  cases e : fa δ with
  | none => rw [e] at h; exact h.elim
  | some r =>
    rw [e] at h
    cases r with
    | ex x => exact Gs.bad h E
    | ok d => exact fun v F1 H1 u p => hk d v F1 H1 u (E.up u) p (Gs.up h u.ff)
def bndSB (r : Option R) (δ : Env) (k : Bool → Option Out) : Option Out := match r with
  | some (.ok (.bl b)) => k b
  | some (.ex x) => some (.ex x δ)
  | _ => none
theorem tT.goS {D : Ends} {Q1 : Bool → Hp → Prop} {k : Bool → Option Out} (E : c.E F H σ δ) (h : Gs c rt F D (bndSB (fa δ) δ k))
    (hk : ∀ b F1 H1, Up F H F1 H1 → c.E F1 H1 σ δ → Gs c rt F1 D (k b) → Q1 b H1) : tT c fa σ H Q1 := by
  refine ⟨F, δ, E, ?_⟩
  cases e : fa δ with
  | none => rw [e] at h; exact h.elim
  | some r =>
    rw [e] at h
    cases r with
    | ex x => exact Gs.bad h E
    | ok d =>
      cases d with
      | bl b => exact fun F1 H1 u => hk b F1 H1 u (E.up u) (Gs.up h u.ff)
      | _ => exact h.elim
theorem Gs.nx {D : Ends} (g : Gs c rt F D (some (.nx δ))) {H1 : Hp} (E : c.E F H1 σ δ) : D.nx σ H1 := g σ F H1 (Same.refl _) E
theorem st_set {i : Nat} {p' : Pos} (hN : X.N.Nodup) (hi : X.N[i]? = some x) (hx : Loc X.env.scope x) (hf : X.fn x = true ∨ X.env.scope.names.lookup x = some .local) (hk : c.Ks[i]? = some (.ve .fz))
    (he : PE X e (tV c ta fa)) (ca : coe ta .fz = true) (hs : swapsWith e (some (.Name x p')) pos.line X.env = pure false) :
    PS X (.Assign [.Name x p'] e pos) (tS c rt fun δ => bndS (fa δ) δ fun d => some (.nx (δ.set i (some d)))) := by
  refine PS.imp (ps_set hN hi hx he hs hf) fun D σ H h => ?_
  obtain ⟨F, δ, E, h⟩ := h
  refine tV.goS ca E h fun d v F1 H1 u1 E1 ⟨A, hx⟩ h1 => ?_
  exact Gs.nx h1 (EnvOk.setVe E1 hk hx.is)
/-- a name whose list may be changed gets a new one -/
theorem st_own {i : Nat} {p' : Pos} (hN : X.N.Nodup) (hi : X.N[i]? = some x) (hx : Loc X.env.scope x) (hf : X.fn x = true ∨ X.env.scope.names.lookup x = some .local) (hk : c.Ks[i]? = some (.ow o))
    (he : PE X e (tV c ta fa)) (ca : ta = .fr o) (hs : swapsWith e (some (.Name x p')) pos.line X.env = pure false) :
    PS X (.Assign [.Name x p'] e pos) (tS c rt fun δ => bndS (fa δ) δ fun d => some (.nx (δ.set i (some d)))) := by
  subst ca
  refine PS.imp (ps_set hN hi hx he hs hf) fun D σ H h => ?_
  obtain ⟨F, δ, E, h⟩ := h
  refine tV.goP E h fun d v F1 H1 u1 E1 p h1 => ?_
  obtain ⟨A, ow, nd, nn⟩ := p
  exact Gs.nx h1 (EnvOk.setOw E u1 hk ow nd nn)
theorem EnvOk.toUp {K : PySem.W.Frag} {Ks : List Kd} {F0 : Hp} (E : EnvOk K Ks F0 G F H σ δ) : Up F0 G F H := ⟨E.f0, E.gh, E.fr, E.fh⟩
/-- return e, frozen -/
theorem st_ret (he : PE X e (tV c ta fa)) (ca : coe ta .fz = true) : PS X (.Return (some e) pos) (tS c (.vw .fz) fun δ => bndS (fa δ) δ fun d => some (.ret d δ)) := by
  refine PS.imp (ps_ret he) fun D σ H h => ?_
  obtain ⟨F, δ, E, h⟩ := h
  refine tV.goS ca E h fun d v F1 H1 u1 E1 ⟨A, hx⟩ h1 => ?_
  exact h1 v σ F1 H1 E1 ⟨[], Own.of_is hx.is⟩
/-- .. what was made since the entry -/
theorem st_retFr (he : PE X e (tV c ta fa)) (ca : ta = .fr o) : PS X (.Return (some e) pos) (tS c (.fr o) fun δ => bndS (fa δ) δ fun d => some (.ret d δ)) := by
  subst ca
  refine PS.imp (ps_ret he) fun D σ H h => ?_
  obtain ⟨F, δ, E, h⟩ := h
  refine tV.goP E h fun d v F1 H1 u1 E1 p h1 => ?_
  exact h1 v σ F1 H1 E1 (p.up E.gh)
/-- .. a name's own list -/
theorem st_retOw {i : Nat} (hN : X.N[i]? = some x) (hv : Vis X.env.scope x) (hd : (x == ("__debug__" : Str)) = false) (hcd : (x == ("__classdict__" : Str)) = false) (hk : c.Ks[i]? = some (.ow o)) :
    PS X (.Return (some (.Name x p)) pos) (tS c (.fr o) fun δ => bndS (evVar i δ) δ fun d => some (.ret d (δ.set i none))) := by
  refine PS.imp (ps_ret (pe_var hN hv hd hcd)) fun D σ H h => ?_
  obtain ⟨F, δ, E, h⟩ := h
  change Gs c (.fr o) F D (bndS (evVar i δ) δ fun d => some (.ret d (δ.set i none))) at h
  unfold evVar at h
  cases e : δ[i]? with
  | none => rw [e] at h; exact h.elim
  | some q =>
    cases q with
    | none => rw [e] at h; exact h.elim
    | some d =>
      rw [e] at h
      obtain ⟨As, h1, h2, h3, h4⟩ := EnvOk.sl E
      obtain ⟨v, e1, s⟩ := h1 i _ d hk e
      refine ⟨v, e1, h v σ F H (EnvOk.unset E i) ⟨As i, s, h2 i, fun a ha => ?_⟩⟩
      obtain ⟨x1, x2, x3⟩ := h4 i a ha
      exact ⟨x2, x1⟩
theorem st_if {ga gb : So} {sa sb : List Stmt} (hc : PT X e (tT c fc)) (ha : PSs X sa (tS c rt ga)) (hb : PSs X sb (tS c rt gb)) : PS X (.If e sa sb pos) (tS c rt fun δ => bndSB (fc δ) δ fun b => if b then ga δ else gb δ) := by
  refine PS.imp (ps_if hc ha hb) fun D σ H h => ?_
  obtain ⟨F, δ, E, h⟩ := h
  refine tT.goS E h fun b F1 H1 u1 E1 h1 => ?_
  cases b with
  | true => exact ⟨F1, δ, E1, h1⟩
  | false => exact ⟨F1, δ, E1, h1⟩
def forGo (t : Tg) (body : So) : List D → So
  | [], δ => some (.nx δ)
  | d :: ds, δ => (bindT t d δ).bind fun δ1 => match body δ1 with
    | some (.nx δ2) => forGo t body ds δ2
    | some (.ct δ2) => forGo t body ds δ2
    | some (.brk δ2) => some (.nx δ2)
    | r => r
def bndSL (r : Option RL) (δ : Env) (k : List D → Option Out) : Option Out := match r with
  | some (.ok d) => k d
  | some (.ex x) => some (.ex x δ)
  | none => none
/-- what of an outcome a loop hands on -/
theorem st_for {iter : Expr} {body : List Stmt} {gm : Gm} {t : Tg} {g : So} {fi : Env → Option RL} (hp : PassesOwn (model X.prog X.w) X.A X.env X.xe) (hc : X.calm = true) (hi : PI X tg iter (tI c gm fi)) (hg : PG X tg (tG c t)) (hb : PSs X body (tS c rt g))
    (hgm : gm ≠ .nw) (hs : ∀ x, foldedSetIterable iter X.env x = pure x) : PS X (.For tg iter body [] pos) (tS c rt fun δ => bndSL (fi δ) δ fun ds => forGo t g ds δ) := by
  refine PS.imp (ps_for hp hc hi hg hb hs) fun D σ H h => ?_
  obtain ⟨F, δ, E, h⟩ := h
  change Gs c rt F D (bndSL (fi δ) δ _) at h
  refine ⟨F, δ, E, ?_⟩
  cases e : fi δ with
  | none => rw [e] at h; exact h
  | some r =>
    rw [e] at h
    cases r with
    | ex x => exact Gs.bad h E
    | ok ds =>
      intro J F1 H1 u w
      change Gs c rt F D (forGo t g ds δ) at h
      refine ⟨fun i m σ H => m = ds.length - i ∧ i ≤ ds.length ∧ ∃ F δ, c.E F H σ δ ∧ Same F1 F ∧ Gs c rt F D (forGo t g (ds.drop i) δ), ⟨ds.length, by simp, Nat.zero_le _, F1, δ, E.up u, Same.refl _, by simpa using Gs.up h u.ff⟩, ?_⟩
      rintro i m σ2 H2 ⟨rfl, hle, F2, δ2, E2, s2, h2⟩
      have s3 : Same (gm.hp c H1) H2 := by
        cases gm with
        | fz => exact fun _ _ e => nomatch e
        | en => exact E2.gh
        | nw => exact absurd rfl hgm
      obtain ⟨w1, w2⟩ := w F2 H2 s2 E2.fh s3 i
      by_cases hlt : i < ds.length
      · have hd : ds[i]? = some ds[i] := List.getElem?_eq_getElem hlt
        obtain ⟨go, y1⟩ := w1 _ hd
        rw [drop_get hd] at h2
        refine .inr ⟨go, fun σ' H' => (ds.length - (i + 1) = ds.length - (i + 1) ∧ i + 1 ≤ ds.length ∧ ∃ F δ, c.E F H' σ' δ ∧ Same F1 F ∧ Gs c rt F D (forGo t g (ds.drop (i + 1)) δ)), fun σ' H' n => ⟨_, by omega, n⟩, fun x H' y => ?_⟩
        obtain ⟨F', u', hx⟩ := y1 x H' y
        simp only [forGo] at h2
        cases e1 : bindT t ds[i] δ2 with
        | none => rw [e1] at h2; exact h2.elim
        | some δ1 =>
          rw [e1] at h2
          refine ⟨F', δ2, ds[i], δ1, E2.up u', hx, e1, fun σ3 _ E3 => ⟨F', δ1, E3, ?_⟩⟩
          have sF : Same F1 F' := s2.trans u'.ff
          have h3 := Gs.up h2 u'.ff
          change Gs c rt F' D (match g δ1 with
            | some (.nx δ2) => forGo t g (ds.drop (i + 1)) δ2
            | some (.ct δ2) => forGo t g (ds.drop (i + 1)) δ2
            | some (.brk δ2) => some (.nx δ2)
            | r => r) at h3
          cases e2 : g δ1 with
          | none => rw [e2] at h3; exact h3
          | some r =>
            rw [e2] at h3
            cases r with
            | nx δ4 => exact fun σ4 F4 H4 s4 E4 => ⟨rfl, hlt, F4, δ4, E4, sF.trans s4, Gs.up h3 s4⟩
            | ct δ4 => exact fun σ4 F4 H4 s4 E4 => ⟨rfl, hlt, F4, δ4, E4, sF.trans s4, Gs.up h3 s4⟩
            | brk δ4 => exact fun σ4 F4 H4 s4 E4 => h3 σ4 F4 H4 s4 E4
            | ret d δ4 => exact h3
            | ex x δ4 => exact h3
      · have ei : i = ds.length := by omega
        subst ei
        rw [List.drop_length] at h2
        exact .inl ⟨w2 (Nat.le_refl _), h2 σ2 F2 H2 (Same.refl _) E2⟩
def whGo (tst : Env → Option R) (body : So) : Nat → So
  | 0, _ => none
  | n + 1, δ => bndSB (tst δ) δ fun b => if b then (match body δ with
      | some (.nx δ2) => whGo tst body n δ2
      | some (.ct δ2) => whGo tst body n δ2
      | some (.brk δ2) => some (.nx δ2)
      | r => r) else some (.nx δ)
theorem st_while {body : List Stmt} {g : So} {n : Nat} (hp : PassesOwn (model X.prog X.w) X.A X.env X.xe) (hc : PT X e (tT c fc)) (hb : PSs X body (tS c rt g)) : PS X (.While e body [] pos) (tS c rt (whGo fc g n)) := by
  refine PS.imp (ps_while hp hc hb) fun D σ H h => ?_
  obtain ⟨F, δ, E, h⟩ := h
  refine ⟨fun m σ H => ∃ F δ, c.E F H σ δ ∧ Gs c rt F D (whGo fc g m δ), ⟨n, F, δ, E, h⟩, ?_⟩
  rintro m σ2 H2 ⟨F2, δ2, E2, h2⟩
  cases m with
  | zero => exact h2.elim
  | succ m =>
    simp only [whGo] at h2
    refine tT.goS E2 h2 fun b F1 H1 u1 E1 h1 => ?_
    cases b with
    | false => exact Gs.nx h1 E1
    | true =>
      refine ⟨fun σ' H' => ∃ F δ, c.E F H' σ' δ ∧ Gs c rt F D (whGo fc g m δ), fun σ' H' q => ⟨m, by omega, q⟩, F1, δ2, E1, ?_⟩
      change Gs c rt F1 D (match g δ2 with
        | some (.nx δ2) => whGo fc g m δ2
        | some (.ct δ2) => whGo fc g m δ2
        | some (.brk δ2) => some (.nx δ2)
        | r => r) at h1
      cases e2 : g δ2 with
      | none => rw [e2] at h1; exact h1
      | some r =>
        rw [e2] at h1
        cases r with
        | nx δ4 => exact fun σ4 F4 H4 s4 E4 => ⟨F4, δ4, E4, Gs.up h1 s4⟩
        | ct δ4 => exact fun σ4 F4 H4 s4 E4 => ⟨F4, δ4, E4, Gs.up h1 s4⟩
        | brk δ4 => exact fun σ4 F4 H4 s4 E4 => h1 σ4 F4 H4 s4 E4
        | ret d δ4 => exact h1
        | ex x δ4 => exact h1
end Ev

set_option maxHeartbeats 4000000
namespace Ev
open PySem PySem.Spec PyProof.Rows L2
variable [Wd]
variable {X : Cx} {c : Cp} {F G H F' G' H' : Hp} {σ : L2.St} {δ : Env} {a b e tg : Expr} {es : List Expr} {pos p : Pos} {x : Str} {ta tb tc ty rt : Ty} {oa ob oc o : OT} {os : List OT} {fa fb fc : Env → Option R} {fs : Env → Option RL} {st : Stmt} {ss : List Stmt}
def unsO (i : Nat) : Option Out → Option Out
  | some (.nx δ) => some (.nx (δ.set i none))
  | some (.brk δ) => some (.brk (δ.set i none))
  | some (.ct δ) => some (.ct (δ.set i none))
  | some (.ret d δ) => some (.ret d (δ.set i none))
  | some (.ex x δ) => some (.ex x (δ.set i none))
  | none => none
def Cp.fz (c : Cp) (i : Nat) : Cp := { c with Ks := c.Ks.set i (.ve .fz) }
theorem EnvOk.fzTo {K : PySem.W.Frag} {Ks : List Kd} {F0 : Hp} (E : EnvOk K Ks F0 G F H σ δ) {i : Nat} (hk : Ks[i]? = some (.ow o)) : ∃ F', Same F F' ∧ EnvOk K (Ks.set i (.ve .fz)) F0 G F' H σ δ := by
  obtain ⟨As, h1, h2, h3, h4⟩ := EnvOk.sl E
  have hi : i < Ks.length := (List.getElem?_eq_some_iff.mp hk).1
  have sF : Same F (frz F H (As i)) := frz_ff E.fh
  have sH : Same (frz F H (As i)) H := frz_fh E.fh
  refine ⟨frz F H (As i), sF, by rw [List.length_set]; exact E.ls, by rw [List.length_set]; exact E.ld, E.gh, E.f0.trans sF, sH, fun b e g => ?_, E.al.kind (noRA hk rfl) rfl, fun j => if j = i then [] else As j, fun j k d e1 e2 => ?_, fun j => ?_, fun j l b ha hb => ?_, fun j b ha => ?_⟩
  · by_cases hb : b ∈ As i
    · exact absurd (h4 i b hb).2.1 g
    · rw [frz_out hb]; exact E.fr b e g
  · by_cases e : j = i
    · subst e
      rw [List.getElem?_set_self hi] at e1
      cases e1
      obtain ⟨v, e3, s⟩ := h1 j _ d hk e2
      exact ⟨v, e3, [], Own.of_is (Own.freeze sF (show Own K F H o d v (As j) from s) fun a ha => frz_in ha)⟩
    · rw [List.getElem?_set_ne (Ne.symm e)] at e1
      obtain ⟨v, e3, s⟩ := h1 j k d e1 e2
      refine ⟨v, e3, ?_⟩
      cases k with
      | ve o =>
        obtain ⟨B, s⟩ := s
        exact ⟨B, s.frame sF fun _ _ => rfl⟩
      | rd o v0 =>
        obtain ⟨er, B, s⟩ := s
        exact ⟨er, B, s.frame sF fun _ _ => rfl⟩
      | ow o =>
        show Own K _ H o d v (if j = i then [] else As j)
        rw [if_neg e]
        exact Own.frame sF (show Own K F H o d v (As j) from s) fun _ _ => rfl
      | pn o v0 =>
        refine ⟨s.1, ?_⟩
        show Own K _ H o d v (if j = i then [] else As j)
        rw [if_neg e]
        exact Own.frame sF (show Own K F H o d v (As j) from s.2) fun _ _ => rfl
      | ar o =>
        show Own K _ H o d v (if j = i then [] else As j)
        rw [if_neg e]
        exact Own.frame sF (show Own K F H o d v (As j) from s) fun _ _ => rfl
      | pr o v0 =>
        refine ⟨s.1, ?_⟩
        show Own K _ H o d v (if j = i then [] else As j)
        rw [if_neg e]
        exact Own.frame sF (show Own K F H o d v (As j) from s.2) fun _ _ => rfl
      | al i o => trivial
  · show (if j = i then [] else As j).Nodup
    split
    · exact List.nodup_nil
    · exact h2 j
  · have ha' : b ∈ (if j = i then [] else As j) := ha
    have hb' : b ∈ (if l = i then [] else As l) := hb
    split at ha' <;> split at hb'
    · cases ha'
    · cases ha'
    · cases hb'
    · exact h3 j l b ha' hb'
  · have ha' : b ∈ (if j = i then [] else As j) := ha
    split at ha'
    · cases ha'
    · rename_i ne
      obtain ⟨x1, x2, x3⟩ := h4 j b ha'
      refine ⟨?_, x2, x3⟩
      rw [frz_out fun hb => ne (h3 j i b ha' hb)]
      exact x1
theorem EnvOk.fzBack {K : PySem.W.Frag} {Ks : List Kd} {F0 : Hp} {i : Nat} {k : Kd} (E : EnvOk K (Ks.set i k) F0 G F H σ δ) (hkd : k.ra = false := by rfl) : EnvOk K Ks F0 G F H σ (δ.set i none) := by
  obtain ⟨As, h1, h2, h3, h4⟩ := EnvOk.sl E
  refine ⟨by have := E.ls; rwa [List.length_set] at this, by have := E.ld; rw [List.length_set] at this ⊢; exact this, E.gh, E.f0, E.fh, E.fr, E.al.kindBack hkd, As, fun j k' d e1 e2 => ?_, h2, h3, h4⟩
  rcases getElem?_set_or e2 with ⟨rfl, e3⟩ | ⟨ne, e3⟩
  · cases e3
  · exact h1 j k' d (by rw [List.getElem?_set_ne (Ne.symm ne)]; exact e1) e3
theorem ss_frz {i : Nat} {g : So} (hk : c.Ks[i]? = some (.ow o)) (h : PSs X ss (tS (c.fz i) rt g)) : PSs X ss (tS c rt fun δ => unsO i (g δ)) := by
  refine PSs.imp h fun D σ H h => ?_
  obtain ⟨F, δ, E, h⟩ := h
  obtain ⟨F', sF, E'⟩ := EnvOk.fzTo E hk
  refine ⟨F', δ, E', ?_⟩
  change Gs c rt F D (unsO i (g δ)) at h
  cases e : g δ with
  | none => rw [e] at h; exact h
  | some r =>
    rw [e] at h
    cases r with
    | nx δ => exact fun σ F2 H2 s2 E2 => h σ F2 H2 (sF.trans s2) (EnvOk.fzBack E2)
    | brk δ => exact fun σ F2 H2 s2 E2 => h σ F2 H2 (sF.trans s2) (EnvOk.fzBack E2)
    | ct δ => exact fun σ F2 H2 s2 E2 => h σ F2 H2 (sF.trans s2) (EnvOk.fzBack E2)
    | ret d δ => exact fun v σ F2 H2 E2 p => h v σ F2 H2 (EnvOk.fzBack E2) p
    | ex x δ => exact fun cls u dx σ F2 H2 r s2 E2 xr => h cls u dx σ F2 H2 r (sF.trans s2) (EnvOk.fzBack E2) xr
theorem EnvOk.lst {K : PySem.W.Frag} {Ks : List Kd} {F0 : Hp} (E : EnvOk K Ks F0 G F H σ δ) {i : Nat} {ds : List D} (hk : Ks[i]? = some (.ow (.lst .fz))) (hd : δ[i]? = some (some (.lst ds))) :
    ∃ l vs, σ[i]? = some (some (.ref l)) ∧ H l = some (.lst vs) ∧ IsL K F ds vs ∧ ∀ ds' vs', IsL K F ds' vs' → EnvOk K Ks F0 G F (upd H l (.lst vs')) σ (δ.set i (some (.lst ds'))) := by
  obtain ⟨As, h1, h2, h3, h4⟩ := EnvOk.sl E
  obtain ⟨v, e, s⟩ := h1 i _ _ hk hd
  have s' : Own K F H (.lst .fz) (.lst ds) v (As i) := s
  simp only [Own] at s'
  obtain ⟨l, vs, B, rfl, hl, hL, eA⟩ := s'
  obtain ⟨eB, hI⟩ := hL.fz
  subst eB
  refine ⟨l, vs, e, hl, hI, fun ds' vs' hI' => EnvOk.put E hk hd e fun A hA nA fA => ?_⟩
  simp only [Own] at hA
  obtain ⟨l2, vs2, B2, e2, hl2, hL2, rfl⟩ := hA
  cases e2
  obtain ⟨eB2, _⟩ := hL2.fz
  subst eB2
  have fl : F l = none := fA l (by simp)
  refine ⟨[l], ?_, by simp, Same.refl _, fun b u q => ?_, fun b q _ => q, fun b hb => .inl hb, fun b hb => ?_, fun b hb _ => ?_⟩
  · simp only [Own]
    exact ⟨l, vs', [], rfl, upd_same, OwnL.of_fz hI', rfl⟩
  · have ne : b ≠ l := fun z => by rw [z, fl] at q; cases q
    rw [upd_ne ne]; exact E.fh b u q
  · have : b = l := by simpa using hb
    rw [this]; exact fl
  · have ne : b ≠ l := fun z => hb (by simp [z])
    rw [upd_ne ne]
def lstAt (δ : Env) (i : Nat) : Option (List D) := match δ[i]? with
  | some (some (.lst ds)) => some ds
  | _ => none
theorem lstAt_some {i : Nat} {ds : List D} (h : lstAt δ i = some ds) : δ[i]? = some (some (.lst ds)) := by
  unfold lstAt at h
  split at h
  · rename_i q; cases h; exact q
  · cases h
def appO (i : Nat) (d : D) (δ : Env) : Option Out := (lstAt δ i).bind fun ds => if ds.length < sizeLine then some (.nx (δ.set i (some (.lst (ds ++ [d]))))) else none
theorem isL_app {K : PySem.W.Frag} : ∀ {ds es : List D} {vs ws : List V}, IsL K F ds vs → IsL K F es ws → IsL K F (ds ++ es) (vs ++ ws)
  | [], es, vs, ws, h, h2 => by simp only [IsL] at h; subst h; exact h2
  | d :: ds, es, vs, ws, h, h2 => by
    simp only [IsL] at h
    obtain ⟨v, r, rfl, h1, h3⟩ := h
    exact ⟨v, r ++ ws, rfl, h1, isL_app h3 h2⟩
variable {apos cpos : Pos}
theorem Gs.none {D : Ends} (h : Gs c rt F D none) : False := h
theorem bind_someO {α : Type} {r : Option α} {k : α → Option Out} {D : Ends} (h : Gs c rt F D (r.bind k)) : ∃ x, r = some x ∧ Gs c rt F D (k x) := by
  cases r with
  | none => exact h.elim
  | some x => exact ⟨x, rfl, h⟩
theorem st_append {i : Nat} (hK : X.K = c.K) (hN : X.N[i]? = some x) (hv : Vis X.env.scope x) (hd : (x == ("__debug__" : Str)) = false) (hcd : (x == ("__classdict__" : Str)) = false) (hk : c.Ks[i]? = some (.ow (.lst .fz)))
    (ha : PE X a (tV c ta fa)) (ca : coe ta .fz = true)
    (hbase : attributeBase (.Name x p) "append" X.env (eval (.Name x p) X.env) = eval (.Name x p) X.env)
    (hfew : ((backTo cpos (starEach [a] X.env)).all (fun x => !x.1) && (backToKw cpos (keywordEach [] X.env)).all (fun x => x.1.isSome) && decide ([a].length + ([] : List Keyword).length + (if ([] : List Keyword).isEmpty then 0 else 1) < 30)) = true)
    (hline : (apos.endLine == cpos.line) = true) (hs : starEach [a] X.env = (false, eval a X.env) :: starEach [] X.env) (hplain : (backTo cpos (starEach [] X.env)).any (·.1) = false)
    (hsw : swapsWith (.Call (.Attribute (.Name x p) "append" apos) [a] [] cpos) none pos.line X.env = pure false) :
    PS X (.Expr (.Call (.Attribute (.Name x p) "append" apos) [a] [] cpos) pos) (tS c rt fun δ => (lstAt δ i).bind fun _ => bndS (fa δ) δ fun d => appO i d δ) := by
  refine PS.imp (ps_expr (pe_bm PySem.F.plainAttrs_list PySem.F.slot_list_append PySem.F.type_list_append mt_append (pe_var hN hv hd hcd) (pa_cons ha pa_nil hs) hbase hfew hline hs hplain) hsw) fun D σ H h => ?_
  obtain ⟨F, δ, E, h⟩ := h
  obtain ⟨ds, e1, h⟩ := bind_someO h
  have hd0 := lstAt_some e1
  obtain ⟨l, vs, eσ, hl, hI, _⟩ := EnvOk.lst E hk hd0
  refine ⟨_, eσ, .inl ⟨rfl, vs, SqL.of hl⟩, ?_⟩
  refine tV.goS ca E h fun d v F1 H1 u1 E1 ⟨A, hx⟩ h1 => ?_
  obtain ⟨ds1, e2, h1⟩ := bind_someO h1
  rw [e1] at e2; cases e2
  obtain ⟨l2, vs2, eσ2, hl2, hI2, put⟩ := EnvOk.lst E1 hk hd0
  rw [eσ] at eσ2; cases eσ2
  by_cases g : ds.length < sizeLine
  · rw [if_pos g] at h1
    refine ⟨l, vs2, v, rfl, rfl, hl2, by rw [hI2.length]; exact g, ?_⟩
    exact Gs.nx h1 (put _ _ (isL_app hI2 ⟨v, [], rfl, hx.is, by simp only [IsL]⟩))
  · rw [if_neg g] at h1; exact h1.elim
def outR (rt : Ty) : Option Out → Option R
  | some (.nx _) => (match rt with | .vw .fz => some (.ok .non) | _ => none)
  | some (.ret d _) => some (.ok d)
  | some (.ex x _) => some (.ex x)
  | _ => none
def startE (n : Nat) (ds : List D) : Env := ds.map some ++ List.replicate (n - ds.length) none
def defF (rt : Ty) (n : Nat) (g : So) : Fn := fun ds => outR rt (g (startE n ds))
theorem ViewL.get {K : PySem.W.Frag} : ∀ {os : List OT} {ds : List D} {vs : List V} {i : Nat} {o : OT} {d : D}, ViewL K F H os ds vs → os[i]? = some o → ds[i]? = some d → ∃ v, vs[i]? = some v ∧ ∃ A, Own K F H o d v A
  | [], ds, vs, i, o, d, h, e1, e2 => by simp at e1
  | o1 :: os, [], vs, i, o, d, h, e1, e2 => by simp at e2
  | o1 :: os, d1 :: ds, vs, 0, o, d, h, e1, e2 => by
    simp only [ViewL] at h
    obtain ⟨v, r, rfl, h1, h2⟩ := h
    cases e1; cases e2
    exact ⟨v, rfl, h1⟩
  | o1 :: os, d1 :: ds, vs, i + 1, o, d, h, e1, e2 => by
    simp only [ViewL] at h
    obtain ⟨v, r, rfl, h1, h2⟩ := h
    exact ViewL.get (os := os) (ds := ds) (vs := r) (i := i) h2 (by simpa using e1) (by simpa using e2)
theorem ViewL.lend {K : PySem.W.Frag} : ∀ {os : List OT} {ds : List D} {vs : List V}, ViewL K F H os ds vs → ds.length = os.length
  | [], [], _, h => rfl
  | o :: os, d :: ds, _, h => by
    simp only [ViewL] at h
    obtain ⟨v, r, rfl, _, h2⟩ := h
    rw [List.length_cons, List.length_cons, ViewL.lend h2]
  | [], _ :: _, _, h => by simp [ViewL] at h
  | _ :: _, [], _, h => by simp [ViewL] at h
theorem startE_get {n i : Nat} {ds : List D} {d : D} (h : (startE n ds)[i]? = some (some d)) : ds[i]? = some d := by
  unfold startE at h
  by_cases hi : i < ds.length
  · rw [List.getElem?_append_left (by simpa using hi), List.getElem?_map] at h
    cases e : ds[i]? with
    | none => rw [e] at h; cases h
    | some q => rw [e] at h; cases h; rfl
  · rw [List.getElem?_append_right (by simpa using hi), List.getElem?_replicate] at h
    split at h <;> cases h
theorem start_get {N : List Str} {vs : List V} {i : Nat} {v : V} (h : vs[i]? = some v) : (L2.start N vs)[i]? = some (some v) := by
  have hi : i < vs.length := (List.getElem?_eq_some_iff.mp h).1
  unfold L2.start
  rw [List.getElem?_append_left (by simpa using hi), List.getElem?_map, h]; rfl
theorem EnvOk.start {K : PySem.W.Frag} {N : List Str} {Ks : List Kd} {ds : List D} {vs : List V} (s : Same F H) (hN : Ks.length = N.length) (hle : os.length ≤ N.length) (hk : Ks.take os.length = os.map .ve) (h : ViewL K F H os ds vs) :
    EnvOk K Ks F H F H (L2.start N vs) (startE N.length ds) := by
  have l1 := h.len
  have l2 := h.lend
  have kinds : ∀ {i : Nat} {k : Kd} {d : D}, Ks[i]? = some k → (startE N.length ds)[i]? = some (some d) → ∃ o, k = Kd.ve o := fun {i k d} e1 e2 => by
    have e3 := startE_get e2
    have hi : i < os.length := by have := (List.getElem?_eq_some_iff.mp e3).1; omega
    have e4 : os[i]? = some os[i] := List.getElem?_eq_getElem hi
    have e6 : (Ks.take os.length)[i]? = some (.ve os[i]) := by rw [hk, List.getElem?_map, e4]; rfl
    rw [List.getElem?_take_of_lt hi, e1] at e6
    cases e6
    exact ⟨_, rfl⟩
  refine ⟨?_, ?_, Same.refl _, Same.refl _, s, fun a e _ => e, fun j i o' ns e1 e2 => (by obtain ⟨o, e⟩ := kinds e1 e2; cases e), fun _ => [], fun i k d e1 e2 => ?_, fun _ => List.nodup_nil, fun _ _ _ h _ => (nomatch h), fun _ _ h => (nomatch h)⟩
  · unfold L2.start
    rw [List.length_append, List.length_map, List.length_replicate, hN]; omega
  · unfold startE
    rw [List.length_append, List.length_map, List.length_replicate, hN]; omega
  · have e3 := startE_get e2
    have hi : i < os.length := by have := (List.getElem?_eq_some_iff.mp e3).1; omega
    have e4 : os[i]? = some os[i] := List.getElem?_eq_getElem hi
    obtain ⟨v, e5, A, ow⟩ := h.get e4 e3
    refine ⟨v, start_get e5, ?_⟩
    have e6 : (Ks.take os.length)[i]? = some (.ve os[i]) := by rw [hk, List.getElem?_map, e4]; rfl
    rw [List.getElem?_take_of_lt hi, e1] at e6
    cases e6
    exact ⟨A, ow⟩
section
variable {P : Program} {w : World} {K : PySem.W.Frag} {mg : Str → Option Value} {base : Heap} {xn qual : Str} {params : Arguments} {body : List Stmt} {scope : Scope} {dvs : List V} {kws : List (Str × V)} {f : Addr} {fd : FuncData}
/-- a def's body, in every context of a call -/
def BodyOk (P : Program) (w : World) (K : PySem.W.Frag) (mg : Str → Option Value) (base : Heap) (N : List Str) (qual : Str) (scope : Scope) (f : Addr) (k : Nat) (Ks : List Kd) (rt : Ty) (body : List Stmt) (g : So) : Prop :=
  ∀ (cdv : Value) (A : Around) (outer : List PySem.Env) (s : Shared) (H : Hp) (E : XK) (c : Cp), Room k (A.deeper (envOfC qual scope s.heap.objs.size f cdv)) → c.K = K → c.Ks = Ks →
    Takes (cxOf (L2.CX P w) P w K mg base N qual scope f cdv A outer s H E) c.W → PSs (cxOf (L2.CX P w) P w K mg base N qual scope f cdv A outer s H E) body (tS c rt g)
theorem def_ok {N ps : List Str} {k : Nat} {sg : Sig} {g : So} {Ks : List Kd} (FD : FunD K xn qual params body scope dvs kws f fd) (S : FnScope N ps scope) (hKs : Ks.length = N.length) (ha : sg.args.length = ps.length) (hle : ps.length ≤ N.length)
    (hk : Ks.take sg.args.length = sg.args.map .ve) (hb : BodyOk P w K mg base N qual scope f k Ks sg.ret body g) : FnOk P w K mg base (L2.CX P w) (k + 1) f fd ps (spE K sg (defF sg.ret N.length g)) := by
  refine FD.ok S (fun vs H Q E h => ?_) (fun cdv A outer s H vs Q E hr h => ?_)
  · obtain ⟨F, ds, _, h, _⟩ := h
    rw [h.len, ha]
  · obtain ⟨F, ds, sF, hv, hq⟩ := h
    refine ⟨_, hb cdv A outer s H E ⟨K, Ks, F, H, fun u dx _ H' => E u dx H'⟩ hr rfl rfl (takes_of rfl rfl rfl rfl), ?_⟩
    refine ⟨F, startE N.length ds, EnvOk.start sF hKs (by rw [ha]; exact hle) hk hv, ?_⟩
    change GF K F H sg.ret Q E (outR sg.ret (g (startE N.length ds))) at hq
    cases e : g (startE N.length ds) with
    | none => rw [e] at hq; exact hq
    | some r =>
      rw [e] at hq
      cases r with
      | nx δ =>
        intro σ F' H' s1 E1
        cases q : sg.ret with
        | fr o => rw [q] at hq; exact hq.elim
        | vw o =>
          rw [q] at hq
          cases o with
          | fz => exact hq .non F' H' (EnvOk.toUp E1) ⟨[], Own.of_is (by simp only [Is])⟩
          | _ => exact hq.elim
      | brk δ => exact hq.elim
      | ct δ => exact hq.elim
      | ret d δ => exact fun v σ F' H' E1 p => hq v F' H' (EnvOk.toUp E1) p
      | ex x δ => exact fun cls u dx σ F' H' r s1 E1 xr => hq cls u dx F' H' r (EnvOk.toUp E1) xr
end
end Ev

set_option maxHeartbeats 4000000
namespace Ev
open PySem PySem.Spec PyProof.Rows L2
variable [Wd]
variable {X : Cx} {c : Cp} {F G H F' G' H' : Hp} {σ : L2.St} {δ : Env} {a b e tg : Expr} {es : List Expr} {pos p : Pos} {x : Str} {ta tb tc ty rt : Ty} {oa ob oc o : OT} {os : List OT} {fa fb fc : Env → Option R} {fs : Env → Option RL} {st : Stmt} {ss : List Stmt}
/-- C.f is the number i -/
def CInt (K : PySem.W.Frag) (C : Addr) (f : Str) (i : Int) : Prop := ∃ mc u, ClX.CRead K C mc ∧ ClX.CVal K C mc f (.int i) u
/-- a method's rule on data -/
def MetS (X : Cx) (c : Cp) (id : String) (os : List OT) (ty : Ty) (f : D → List D → Option D) : Prop := ∃ r, MtR X id r ∧
  ∀ (F H : Hp) (x : V) (vs : List V) (dx : D) (ds : List D) (d : D) (A : List Addr) (Q : VK), Same F H → Own c.K F H .bw dx x A → ViewL c.K F H os ds vs → f dx ds = some d → (∀ v F' H', Up F H F' H' → Post c.K H F' H' ty d v → Q v H') → r x vs H Q
def tyOk (T : String) (d : D) : Bool := tyNm d == T && (T == "str" || T == "list" || T == "dict") && (match d with | .ins _ _ => false | .dct _ _ => false | .cl _ => false | .xv => false | _ => true)
def mG (T : String) (f : D → List D → Option D) (x : D) (ds : List D) : Option R := okO (f x ds)
def strsD : List D → Option (List Str)
  | [] => some []
  | .str z :: r => (strsD r).map (z :: ·)
  | _ => none
def joinGo (a : Str) (ds : List D) : Option D := (strsD ds).bind fun ys => if (ys.map (·.length)).sum + ys.length * a.length ≤ 16777216 then some (.str (Txt.join a ys)) else none
def joinD (x : D) (ds : List D) : Option D := match x, ds with
  | .str a, [.lst ds] => joinGo a ds
  | .str a, [.tup ds] => joinGo a ds
  | _, _ => none
def zipL : List D → List D → List D
  | d :: ds, e :: es => .tup [d, e] :: zipL ds es
  | _, _ => []
def nsD : D → Bool
  | .str _ => false
  | _ => true
def nsP : D → Bool
  | .tup l => l.any nsD
  | _ => false
def zipN (ds es : List D) : Option (List D) := if (zipL ds es).all nsP then some (zipL ds es) else none
def zipD (l : List D) : Option (List D) := match l with
  | [.lst ds, .lst es] => zipN ds es
  | [.tup ds, .tup es] => zipN ds es
  | _ => none
end Ev

set_option maxHeartbeats 4000000
namespace Ev
open PySem PySem.Spec PyProof.Rows L2
variable [Wd]
variable {X : Cx} {c : Cp} {F G H F' G' H' : Hp} {σ : L2.St} {δ : Env} {a b e tg : Expr} {es : List Expr} {pos p : Pos} {x : Str} {ta tb tc ty rt : Ty} {oa ob oc o : OT} {os : List OT} {fa fb fc : Env → Option R} {fs : Env → Option RL} {st : Stmt} {ss : List Stmt}
def lcF (t : Tg) (tst : Option (Env → Option R)) (fe : Env → Option R) (fi : Env → Option RL) (own : List Nat) : Env → Option R := fun δ => bndL (fi δ) fun ds => okO (lcD t tst fe (unsetL δ own) ds)
theorem lc_rd {own : List Nat} {gm : Gm} {t : Tg} {tst : Option (Env → Option R)} {fe : Env → Option R} {fi : Env → Option RL} {ety : Ty} (ce : coe ety .fz = true) (hw : ∀ j ∈ tgSlots t, j ∈ own) {σ : L2.St} {H : Hp} {Q : VK}
    (h : tV c (.fr (.lst .fz)) (lcF t tst fe fi own) σ H Q) : tLc (tI c gm fi) (tG c.quiet t) (tTo c.quiet tst) (tV c.quiet ety fe) own σ H Q := by
  obtain ⟨F, δ, E, h⟩ := h
  change Gv c _ F H σ Q (bndL (fi δ) _) at h
  refine ⟨F, δ, E, ?_⟩
  cases e : fi δ with
  | none => rw [e] at h; exact h
  | some r =>
    rw [e] at h
    cases r with
    | ex x => exact h
    | ok ds =>
      intro J F1 H1 u w D0 hD
      change Gv c _ F H σ Q (okO (lcD t tst fe (unsetL δ own) ds)) at h
      obtain ⟨d, e1, q⟩ := h.okT
      unfold lcD at e1
      by_cases hz : ds.length < sizeLine
      · rw [if_pos hz] at e1
        cases e2 : lcGo t tst fe (unsetL δ own) ds with
        | none => rw [e2] at e1; cases e1
        | some es =>
          rw [e2] at e1
          cases e1
          refine lc_turns (E.up u) w hD hz ce hw e2 fun F3 H3 acc u3 f3 h3 i3 => q _ F3 H3 (u.trans u3) ⟨[D0], ?_, by simp, fun a ha => ?_⟩
          · simp only [Own]
            exact ⟨D0, acc, [], rfl, h3, OwnL.of_fz i3, rfl⟩
          · have z : a = D0 := by simpa using ha
            subst z
            exact ⟨u.hh.free hD, f3⟩
      · rw [if_neg hz] at e1; cases e1
structure Nm (N : List Str) (sc : Scope) (i : Nat) (x : Str) : Prop where
  n : N[i]? = some x
  v : Vis sc x
  d : (x == ("__debug__" : Str)) = false
  cd : (x == ("__classdict__" : Str)) = false
def nmB (N : List Str) (sc : Scope) (i : Nat) (x : Str) : Bool := decide (N[i]? = some x) && (match sc.names.lookup x with
  | some .local => true | some .cell => true | some .free => true | _ => false) && !(x == ("__debug__" : Str)) && !(x == ("__classdict__" : Str))
theorem nm_by {N : List Str} {sc : Scope} {i : Nat} {x : Str} (h : nmB N sc i x = true) : Nm N sc i x := by
  unfold nmB at h
  simp only [Bool.and_eq_true, decide_eq_true_eq, Bool.not_eq_true'] at h
  obtain ⟨⟨⟨h1, h2⟩, h3⟩, h4⟩ := h
  refine ⟨h1, ?_, h3, h4⟩
  unfold Vis
  split at h2
  · rename_i e; exact .inl e
  · rename_i e; exact .inr (.inl e)
  · rename_i e; exact .inr (.inr e)
  · cases h2
structure Lo (N : List Str) (sc : Scope) (i : Nat) (x : Str) : Prop where
  nd : N.Nodup
  n : N[i]? = some x
  l : L2.Loc sc x
def loB (N : List Str) (sc : Scope) (i : Nat) (x : Str) : Bool := decide N.Nodup && decide (N[i]? = some x) && (match sc.names.lookup x with
  | some .local => true | some .cell => true | _ => false)
theorem lo_by {N : List Str} {sc : Scope} {i : Nat} {x : Str} (h : loB N sc i x = true) : Lo N sc i x := by
  unfold loB at h
  simp only [Bool.and_eq_true, decide_eq_true_eq] at h
  refine ⟨h.1.1, h.1.2, ?_⟩
  have h2 := h.2
  unfold L2.Loc
  split at h2
  · rename_i e; exact .inl e
  · rename_i e; exact .inr e
  · cases h2
theorem e_var {i : Nat} {k : Kd} (n : Nm X.N X.env.scope i x) (hk : c.Ks[i]? = some k) (hna : k.isAl = false := by rfl) : PE X (.Name x pos) (tV c (.vw k.ot) (evVar i)) := s_var n.n n.v n.d n.cd hk hna
theorem e_set {i : Nat} {p' : Pos} (n : Lo X.N X.env.scope i x) (hk : c.Ks[i]? = some (.ve .fz)) (he : PE X e (tV c ta fa)) (ca : coe ta .fz = true) (hf : X.fn x = true ∨ X.env.scope.names.lookup x = some .local) (hs : swapsWith e (some (.Name x p')) pos.line X.env = pure false) :
    PS X (.Assign [.Name x p'] e pos) (tS c rt fun δ => bndS (fa δ) δ fun d => some (.nx (δ.set i (some d)))) := st_set n.nd n.n n.l hf hk he ca hs
theorem e_own {i : Nat} {p' : Pos} (n : Lo X.N X.env.scope i x) (hk : c.Ks[i]? = some (.ow o)) (he : PE X e (tV c (.fr o) fa)) (hf : X.fn x = true ∨ X.env.scope.names.lookup x = some .local) (hs : swapsWith e (some (.Name x p')) pos.line X.env = pure false) :
    PS X (.Assign [.Name x p'] e pos) (tS c rt fun δ => bndS (fa δ) δ fun d => some (.nx (δ.set i (some d)))) := st_own n.nd n.n n.l hf hk he rfl hs
theorem e_nm {i : Nat} (n : Lo X.N X.env.scope i x) (hk : c.Ks[i]? = some (.ve .fz)) (hf : X.fn x = true ∨ X.env.scope.names.lookup x = some .local) : PG X (.Name x pos) (tG c (.nm i)) := g_nm n.nd n.n n.l hf hk
section
variable {elt tgE iter : Expr} {ifs : List Expr} {scope : Scope} {own : List (Str × Nat)} {gm : Gm} {t : Tg} {tst : Option (Env → Option R)} {fe : Env → Option R} {fi : Env → Option RL} {ety : Ty} {y : Str} {py spos : Pos} {i : Nat}
theorem e_lc (hc : X.calm = true) (hN : X.N.Nodup) (hi : PI X tgE iter (tI c gm fi)) (ok : BlkOk X.N X.env.scope scope own)
    (hg : ∀ (s : Shared) (H : Hp) (C : Addr) (cl : List (Str × Addr)) (fp : List Addr), PG (X.blk s H scope (compEnvC scope cl C X.env) fp) tgE (tG c.quiet t))
    (ht : ∀ (s : Shared) (H : Hp) (C : Addr) (cl : List (Str × Addr)) (fp : List Addr), PTs (X.blk s H scope (compEnvC scope cl C X.env) fp) ifs (tTo c.quiet tst))
    (he : ∀ (s : Shared) (H : Hp) (C : Addr) (cl : List (Str × Addr)) (fp : List Addr), PE (X.blk s H scope (compEnvC scope cl C X.env) fp) elt (tV c.quiet ety fe))
    (ce : coe ety .fz = true) (hw : ∀ j ∈ tgSlots t, j ∈ own.map (·.2)) (hs : ∀ x, foldedSetIterable iter X.env x = pure x) :
    PE X (.ListComp elt [⟨tgE, iter, ifs, 0⟩] scope pos) (tV c (.fr (.lst .fz)) (lcF t tst fe fi (own.map (·.2)))) := s_lc hc hN hi ok hg ht he ce hw hs
theorem e_setLc (hc : X.calm = true) (n : Lo X.N X.env.scope i y) (hyl : X.env.scope.names.lookup y = some .local) (hi : PI X tgE iter (tI c gm fi)) (ok : BlkOk X.N X.env.scope scope own)
    (hg : ∀ (s : Shared) (H : Hp) (C : Addr) (cl : List (Str × Addr)) (fp : List Addr), PG (X.blk s H scope (compEnvC scope cl C X.env) fp) tgE (tG c.quiet t))
    (ht : ∀ (s : Shared) (H : Hp) (C : Addr) (cl : List (Str × Addr)) (fp : List Addr), PTs (X.blk s H scope (compEnvC scope cl C X.env) fp) ifs (tTo c.quiet tst))
    (he : ∀ (s : Shared) (H : Hp) (C : Addr) (cl : List (Str × Addr)) (fp : List Addr), PE (X.blk s H scope (compEnvC scope cl C X.env) fp) elt (tV c.quiet ety fe))
    (ce : coe ety .fz = true) (hw : ∀ j ∈ tgSlots t, j ∈ own.map (·.2)) (hs : ∀ x, foldedSetIterable iter X.env x = pure x) (hsw : swapsWith (.ListComp elt [⟨tgE, iter, ifs, 0⟩] scope pos) (some (.Name y py)) spos.line X.env = pure true)
    (hk : c.Ks[i]? = some (.ve .fz)) : PS X (.Assign [.Name y py] (.ListComp elt [⟨tgE, iter, ifs, 0⟩] scope pos) spos) (tS c rt fun δ => bndS (lcF t tst fe fi (own.map (·.2)) δ) δ fun d => some (.nx (δ.set i (some d)))) := by
  refine PS.imp (ps_setLc hc n.nd n.n hyl hsw hi ok hg ht he hs) fun D σ H h => ?_
  obtain ⟨F, δ, E, h⟩ := h
  refine lc_rd ce hw (tV.goS (oa := .fz) rfl E h fun d v F1 H1 u1 E1 ⟨A, hx⟩ h1 => ?_)
  exact Gs.nx h1 (EnvOk.setVe E1 hk hx.is)
end
structure Cal (P : Program) (w : World) (K : PySem.W.Frag) (mg : Str → Option Value) (base : Heap) (x : Str) (k : Nat) (sg : Sig) (φ : Fn) : Prop where
  ex : ∃ (f : Addr) (fd : FuncData) (ps : List Str), FnOk P w K mg base (L2.CX P w) k f fd ps (spE K sg φ) ∧ mg x = some (.ref f) ∧ PySem.W.keepIn K (.ref f) = true ∧ Binds K fd ps []
theorem e_call {k j : Nat} {sg : Sig} {φ : Fn} (C : Cal X.prog X.w X.K X.mg X.base x k sg φ) (hr : Room j X.A) (hj : k ≤ j) (hK : X.K = c.K) (hg : Gl X x) (tk : Takes X c.W) (ha : PA X (e :: es) (tL c sg.args fs)) (hdb : (x == ("__debug__" : Str)) = false)
    (he : starEach (e :: es) X.env = (false, eval e X.env) :: starEach es X.env) (hpl : (backTo pos (starEach es X.env)).any (·.1) = false) :
    PE X (.Call (.Name x p) (e :: es) [] pos) (tV c sg.ret fun δ => bndL (fs δ) φ) := s_call (k := k) ⟨C.ex⟩ hK (hr.mono hj) hg tk ha hdb he hpl
end Ev

set_option maxHeartbeats 4000000
namespace Ev
open PySem PySem.Spec PyProof.Rows L2
variable [Wd]
variable {X : Cx} {c : Cp} {F G H F' G' H' : Hp} {σ : L2.St} {δ : Env} {a b e tg : Expr} {es : List Expr} {pos p : Pos} {x : Str} {ta tb tc ty rt : Ty} {oa ob oc o : OT} {os : List OT} {fa fb fc : Env → Option R} {fs : Env → Option RL} {st : Stmt} {ss : List Stmt}
abbrev EF := Env → Option R
def fC (d : D) : EF := fun _ => some (.ok d)
def fBin (f : D → D → Option D) (fa fb : EF) : EF := fun δ => bnd (fa δ) fun x => bnd (fb δ) fun y => okO (f x y)
def fCmp (f : D → D → Option Bool) (fa fb : EF) : EF := fun δ => bnd (fa δ) fun x => bnd (fb δ) fun y => okB (f x y)
def fNot (fa : EF) : EF := fun δ => bndB (fa δ) fun b => some (.ok (.bl (!b)))
def fAnd (fa fb : EF) : EF := fun δ => bndB (fa δ) fun x => if x then fb δ else some (.ok (.bl false))
def fOr (fa fb : EF) : EF := fun δ => bndB (fa δ) fun x => if x then some (.ok (.bl true)) else fb δ
def fIf (fc fa fb : EF) : EF := fun δ => bndB (fc δ) fun x => if x then fa δ else fb δ
def fChain (f f' : D → D → Option Bool) (fa fb fc : EF) : EF := fun δ => bnd (fa δ) fun x => bnd (fb δ) fun y => bndB (okB (f x y)) fun k => if k then bnd (fc δ) fun z => okB (f' y z) else some (.ok (.bl false))
def fIx (fa fb : EF) : EF := fun δ => bnd (fa δ) fun x => bnd (fb δ) fun y => okO (ixD x y)
def fSl (fa : EF) (pl pu : Option EF) : EF := fun δ => bnd (fa δ) fun x => evP pl δ fun l => evP pu δ fun u => okO (slD x l u)
abbrev EL := Env → Option RL
def lNil : EL := fun _ => some (.ok [])
def lCons (fa : EF) (fs : EL) : EL := fun δ => consL (fa δ) (fs δ)
def fTup (fs : EL) : EF := fun δ => bndL (fs δ) fun ds => some (.ok (.tup ds))
def fLst (fs : EL) : EF := fun δ => bndL (fs δ) fun ds => some (.ok (.lst ds))
def fBi (g : List D → Option D) (fs : EL) : EF := fun δ => bndL (fs δ) fun ds => okO (g ds)
def fCall (φ : Fn) (fs : EL) : EF := fun δ => bndL (fs δ) φ
def fIsi (t : Tn) (fa : EF) : EF := fun δ => bnd (fa δ) fun d => okB (t.has d)
def fFld (f : Str) (fa : EF) : EF := fun δ => bnd (fa δ) fun d => okO (fldD f d)
def fM (T : String) (f : D → List D → Option D) (fa : EF) (fs : EL) : EF := fun δ => bnd (fa δ) fun x => if tyOk T x then bndL (fs δ) fun ds => okO (f x ds) else none
def iVal (fa : EF) : EL := fun δ => bndI (fa δ) fun d => okL (itemsD d)
def iRng1 (fa : EF) : EL := fun δ => bndI (fa δ) fun d => okL (rngF1 d)
def iRng2 (fa fb : EF) : EL := fun δ => bndI (fa δ) fun d => bndI (fb δ) fun d' => okL (rngF2 d d')
def iZip (fs : EL) : EL := fun δ => match fs δ with
  | some (.ok l) => okL (zipD l)
  | r => r
def sSet (i : Nat) (fa : EF) : So := fun δ => bndS (fa δ) δ fun d => some (.nx (δ.set i (some d)))
def sTup (t : Tg) (fa : EF) : So := fun δ => bndS (fa δ) δ fun d => (bindT t d δ).map .nx
def sRet (fa : EF) : So := fun δ => bndS (fa δ) δ fun d => some (.ret d δ)
def sRetOw (i : Nat) : So := fun δ => bndS (evVar i δ) δ fun d => some (.ret d (δ.set i none))
def sRetN : So := fun δ => some (.ret .non δ)
def sNx : So := fun δ => some (.nx δ)
def sBrk : So := fun δ => some (.brk δ)
def sCt : So := fun δ => some (.ct δ)
def sEx (fa : EF) : So := fun δ => bndS (fa δ) δ fun _ => some (.nx δ)
def sIf (fc : EF) (ga gb : So) : So := fun δ => bndSB (fc δ) δ fun b => if b then ga δ else gb δ
def sFor (t : Tg) (fi : EL) (g : So) : So := fun δ => bndSL (fi δ) δ fun ds => forGo t g ds δ
def sSeq (g k : So) : So := fun δ => seqO (g δ) k
def sFrz (i : Nat) (g : So) : So := fun δ => unsO i (g δ)
def sApp (i : Nat) (fa : EF) : So := fun δ => (lstAt δ i).bind fun _ => bndS (fa δ) δ fun d => appO i d δ
def op (p : Int → Int → Bool) : D → D → Option Bool := cmpI p
def pLt : Int → Int → Bool := fun i j => decide (i < j)
def pLe : Int → Int → Bool := fun i j => decide (i ≤ j)
def pGt : Int → Int → Bool := fun i j => decide (j < i)
def pGe : Int → Int → Bool := fun i j => decide (j ≤ i)
def neD (x y : D) : Option Bool := (eqD x y).map (!·)
def isnD (x y : D) : Option Bool := (isN x y).map (!·)
theorem e_int {i : Int} {j pos} : PE X (.Constant (.int i) j pos) (tV c (.vw .fz) (fC (.int i))) := s_c pe_int fun _ _ => by simp only [Is]
theorem e_str {z : Str} {j pos} (hz : PyData.strOk z = true) : PE X (.Constant (.str z) j pos) (tV c (.vw .fz) (fC (.str z))) := s_c pe_str fun _ _ => Is.str hz
theorem e_bl {b : Bool} {j pos} : PE X (.Constant (.bool b) j pos) (tV c (.vw .fz) (fC (.bl b))) := s_c pe_bl fun _ _ => by simp only [Is]
theorem e_non {j pos} : PE X (.Constant .none j pos) (tV c (.vw .fz) (fC .non)) := s_c pe_non fun _ _ => by simp only [Is]
theorem e_neg {i : Int} {j pos p2} : PE X (.UnaryOp .USub (.Constant (.int i) j p2) pos) (tV c (.vw .fz) (fC (.int (-i)))) := by
  refine PE.imp (pe_un un_neg pe_int) fun σ H Q h => ?_
  obtain ⟨F, δ, E, h⟩ := h
  exact ⟨i, rfl, h _ F H (Up.refl E.fh) ⟨[], Own.of_is (by simp only [Is])⟩⟩
/-- a built-in name as it is seen from a block -/
theorem gl_by {X : Cx} {x : Str} (h : X.env.kindOf x = some .globalImplicit) : Gl X x := h
structure Bi (X : Cx) (x : Str) : Prop where
  g : Gl X x
  m : X.mg x = none
theorem e_bi {id : String} {g : List D → Option D} (B : Bi X x) (h : CallS X c (.builtin id) os ty g) (ha : PA X (e :: es) (tL c os fs)) (hv : bootBuiltins x = some (.builtin id)) (hn : x ≠ "__name__") (hdb : (x == ("__debug__" : Str)) = false)
    (he : starEach (e :: es) X.env = (false, eval e X.env) :: starEach es X.env) (hpl : (backTo pos (starEach es X.env)).any (·.1) = false) :
    PE X (.Call (.Name x p) (e :: es) [] pos) (tV c ty (fBi g fs)) := s_callB h B.g B.m hv ha hn hdb he hpl
theorem e_ty {T : String} {g : List D → Option D} (B : Bi X x) (h : CallS X c (.type T) os ty g) (ha : PA X (e :: es) (tL c os fs)) (hv : bootBuiltins x = some (.type T)) (hn : x ≠ "__name__") (hdb : (x == ("__debug__" : Str)) = false)
    (he : starEach (e :: es) X.env = (false, eval e X.env) :: starEach es X.env) (hpl : (backTo pos (starEach es X.env)).any (·.1) = false) :
    PE X (.Call (.Name x p) (e :: es) [] pos) (tV c ty (fBi g fs)) := s_callTy h B.g B.m hv ha hn hdb he hpl
theorem e_isi {t : Tn} {pi pt : Pos} {xt : Str} (B : Bi X "isinstance") (Bt : Bi X xt) (hK : X.K = c.K) (ha : PE X a (tV c ta fa)) (ca : coe ta .bw = true) (hvt : bootBuiltins xt = some (.type t.nm)) (hn2 : xt ≠ "__name__") (hdb2 : (xt == ("__debug__" : Str)) = false)
    (hs : starEach [a, .Name xt pt] X.env = (false, eval a X.env) :: starEach [.Name xt pt] X.env) :
    PE X (.Call (.Name "isinstance" pi) [a, .Name xt pt] [] pos) (tV c (.vw .fz) (fIsi t fa)) :=
  s_isi hK ha ca B.g B.m rfl Bt.g Bt.m hvt (by decide) (by decide) hn2 hdb2 hs
section
variable {f : D → D → Option D} {h h' : D → D → Option Bool} {e3 : Expr} {rest : List Expr} {g k ga gb : So} {sa sb : List Stmt} {i : Nat} {t : Tg} {gm : Gm} {fi : EL} {p' : Pos}
theorem s_bin' {o : Operator} (ho : OpS X c (binaryOp o) oa ob f) (ha : PE X a (tV c ta fa)) (hb : PE X b (tV c tb fb)) (ca : coe ta oa = true) (cb : coe tb ob = true) : PE X (.BinOp a o b pos) (tV c (.vw .fz) (fBin f fa fb)) := s_bin ho ha hb ca cb
theorem s_cmp' {o : CmpOp} (ho : OpS X c (compareOp o) oa ob fun x y => (h x y).map D.bl) (ha : PE X a (tV c ta fa)) (hb : PE X b (tV c tb fb)) (ca : coe ta oa = true) (cb : coe tb ob = true) (hm : behindInMarks o b = false) : PE X (.Compare a [o] [b] pos) (tV c (.vw .fz) (fCmp h fa fb)) := s_cmp ho ha hb ca cb hm
theorem t_cmp' {o : CmpOp} (ho : OpS X c (compareOp o) oa ob fun x y => (h x y).map D.bl) (ha : PE X a (tV c ta fa)) (hb : PE X b (tV c tb fb)) (ca : coe ta oa = true) (cb : coe tb ob = true) (hm : behindInMarks o b = false) : PT X (.Compare a [o] [b] pos) (tT c (fCmp h fa fb)) := t_cmp ho ha hb ca cb hm
theorem t_in' {neg : Bool} {o : CmpOp} (eo : o = opIn neg) (hu : X.A.units + 65 < cLine) (hK : X.K = c.K) (ha : PE X a (tV c ta fa)) (hb : PE X b (tV c tb fb)) (ca : coe ta .bw = true) (cb : coe tb .bw = true) (hm : behindInMarks (opIn neg) b = false) : PT X (.Compare a [o] [b] pos) (tT c (fCmp (inN neg) fa fb)) := by subst eo; exact t_in hu hK ha hb ca cb hm
theorem t_not' (ha : PT X a (tT c fa)) : PT X (.UnaryOp .Not a pos) (tT c (fNot fa)) := t_not ha
theorem s_not' (ha : PE X a (tV c ta fa)) (ca : coe ta .fz = true) : PE X (.UnaryOp .Not a pos) (tV c (.vw .fz) (fNot fa)) := s_not ha ca
theorem w_and' (ha : PT X a (tT c fa)) (hb : PW X (.BoolOp .And (b :: rest) pos) (tT c fb)) : PW X (.BoolOp .And (a :: b :: rest) pos) (tT c (fAnd fa fb)) := w_and ha hb
theorem w_or' (ha : PT X a (tT c fa)) (hb : PW X (.BoolOp .Or (b :: rest) pos) (tT c fb)) : PW X (.BoolOp .Or (a :: b :: rest) pos) (tT c (fOr fa fb)) := w_or ha hb
theorem s_and' (ha : PE X a (tV c ta fa)) (ca : coe ta .fz = true) (hb : PE X (.BoolOp .And (b :: rest) pos) (tV c (.vw .fz) fb)) : PE X (.BoolOp .And (a :: b :: rest) pos) (tV c (.vw .fz) (fAnd fa fb)) := s_and ha ca hb
theorem s_ix' (ha : PE X a (tV c (.vw o) fa)) (hb : PE X b (tV c tb fb)) (cb : coe tb .fz = true) (hs : PlainIx b) (hn : NoSl b) (hu : X.A.units + 1 < cLine) (hK : X.K = c.K) (hy : elT o = .fz) (hsh : o.isSh = false := by rfl) : PE X (.Subscript a b pos) (tV c (.vw .fz) (fIx fa fb)) := by
  have := s_ix (pos := pos) ha hb rfl cb hs hn hu hK hsh
  rw [hy] at this
  exact this
theorem s_sl' {lo hi : Option Expr} {p2 : Pos} {pl pu : Option (Ty × EF)} {ql qu : Option EF} (el : pl.map (·.2) = ql) (eu : pu.map (·.2) = qu) (ha : PE X a (tV c (.vw o) fa)) (hl : PO X lo (tP c pl)) (hu : PO X hi (tP c pu)) (ho : elO o = true)
    (cl : ∀ q, pl = some q → Ev.coe q.1 .fz = true) (cu : ∀ q, pu = some q → Ev.coe q.1 .fz = true) : PE X (.Subscript a (.Slice lo hi none p2) pos) (tV c (.vw .fz) (fSl fa ql qu)) := by subst el; subst eu; exact s_sl ha hl hu rfl ho cl cu
theorem a_nil' : PA X [] (tL c [] lNil) := a_nil
theorem a_cons' (he : PE X e (tV c ta fa)) (hr : PA X es (tL c os fs)) (ca : coe ta o = true) (hs : starEach (e :: es) X.env = (false, eval e X.env) :: starEach es X.env) : PA X (e :: es) (tL c (o :: os) (lCons fa fs)) := a_cons he hr ca hs
theorem s_tup' {k : Nat} (he : PA X es (tL c os fs)) (hf : ∀ o ∈ os, o = .fz) (hl : os.length ≤ 1000) : PE X (.Tuple es k pos) (tV c (.vw .fz) (fTup fs)) := s_tup he hf hl
theorem s_lst' (he : PA X es (tL c os fs)) (hf : ∀ o ∈ os, o = .fz) (hl : os.length ≤ 1000) : PE X (.List es pos) (tV c (.fr (.lst .fz)) (fLst fs)) := s_lst he hf hl
theorem e_call' {k j : Nat} {sg : Sig} {φ : Fn} (C : Cal X.prog X.w X.K X.mg X.base x k sg φ) (hr : Room j X.A) (hj : k ≤ j) (hK : X.K = c.K) (hg : Gl X x) (tk : Takes X c.W) (ha : PA X (e :: es) (tL c sg.args fs)) (hdb : (x == ("__debug__" : Str)) = false)
    (he : starEach (e :: es) X.env = (false, eval e X.env) :: starEach es X.env) (hpl : (backTo pos (starEach es X.env)).any (·.1) = false) (hty : sg.ret = ty) : PE X (.Call (.Name x p) (e :: es) [] pos) (tV c ty (fCall φ fs)) := by subst hty; exact e_call C hr hj hK hg tk ha hdb he hpl
theorem i_val' (hK : X.K = c.K) (ha : PE X e (tV c (.vw o) fa)) (ho : elO o = true) (hg : gmOf (.vw o) = gm) : PI X tg e (tI c gm (iVal fa)) := by subst hg; exact i_val hK ha ho
theorem i_rng1' {pr : Pos} (ha : PE X a (tV c ta fa)) (ca : coe ta .bw = true) (hg : Gl X "range") (hm : X.mg "range" = none) (hs : starEach [a] X.env = [(false, eval a X.env)]) : PI X tg (.Call (.Name "range" pr) [a] [] pos) (tI c .fz (iRng1 fa)) := i_rng1 ha ca hg hm hs
theorem i_rng2' {pr : Pos} (ha : PE X a (tV c ta fa)) (hb : PE X b (tV c tb fb)) (ca : coe ta .bw = true) (cb : coe tb .bw = true) (hg : Gl X "range") (hm : X.mg "range" = none)
    (hs : starEach [a, b] X.env = [(false, eval a X.env), (false, eval b X.env)]) (hs2 : starEach [b] X.env = [(false, eval b X.env)]) : PI X tg (.Call (.Name "range" pr) [a, b] [] pos) (tI c .fz (iRng2 fa fb)) := i_rng2 ha hb ca cb hg hm hs hs2
theorem e_set' (n : Lo X.N X.env.scope i x) (hk : c.Ks[i]? = some (.ve .fz)) (he : PE X e (tV c ta fa)) (ca : coe ta .fz = true) (hf : X.fn x = true ∨ X.env.scope.names.lookup x = some .local) (hs : swapsWith e (some (.Name x p')) pos.line X.env = pure false) :
    PS X (.Assign [.Name x p'] e pos) (tS c rt (sSet i fa)) := e_set n hk he ca hf hs
theorem e_own' (n : Lo X.N X.env.scope i x) (hk : c.Ks[i]? = some (.ow o)) (he : PE X e (tV c (.fr o) fa)) (hf : X.fn x = true ∨ X.env.scope.names.lookup x = some .local) (hs : swapsWith e (some (.Name x p')) pos.line X.env = pure false) :
    PS X (.Assign [.Name x p'] e pos) (tS c rt (sSet i fa)) := e_own n hk he hf hs
theorem st_ret' (he : PE X e (tV c ta fa)) (ca : coe ta .fz = true) : PS X (.Return (some e) pos) (tS c (.vw .fz) (sRet fa)) := st_ret he ca
theorem st_retFr' (he : PE X e (tV c ta fa)) (ca : ta = .fr o) : PS X (.Return (some e) pos) (tS c (.fr o) (sRet fa)) := st_retFr he ca
theorem st_retOw' (n : Nm X.N X.env.scope i x) (hk : c.Ks[i]? = some (.ow o)) : PS X (.Return (some (.Name x p)) pos) (tS c (.fr o) (sRetOw i)) := st_retOw n.n n.v n.d n.cd hk
theorem st_if' (hc : PT X e (tT c fc)) (ha : PSs X sa (tS c rt ga)) (hb : PSs X sb (tS c rt gb)) : PS X (.If e sa sb pos) (tS c rt (sIf fc ga gb)) := st_if hc ha hb
theorem st_for' {iter : Expr} {body : List Stmt} (hp : PassesOwn (model X.prog X.w) X.A X.env X.xe) (hc : X.calm = true) (hi : PI X tg iter (tI c gm fi)) (hg : PG X tg (tG c t)) (hb : PSs X body (tS c rt g))
    (hgm : gm ≠ .nw) (hs : ∀ x, foldedSetIterable iter X.env x = pure x) : PS X (.For tg iter body [] pos) (tS c rt (sFor t fi g)) := st_for hp hc hi hg hb hgm hs
theorem ss_nil' : PSs X [] (tS c rt sNx) := ss_nil
theorem ss_cons' (h1 : PS X st (tS c rt g)) (h2 : PSs X ss (tS c rt k)) : PSs X (st :: ss) (tS c rt (sSeq g k)) := ss_cons h1 h2
theorem ss_frz' (hk : c.Ks[i]? = some (.ow o)) (h : PSs X ss (tS (c.fz i) rt g)) : PSs X ss (tS c rt (sFrz i g)) := ss_frz hk h
theorem st_append' {apos cpos : Pos} (hK : X.K = c.K) (n : Nm X.N X.env.scope i x) (hk : c.Ks[i]? = some (.ow (.lst .fz))) (ha : PE X a (tV c ta fa)) (ca : coe ta .fz = true)
    (hbase : attributeBase (.Name x p) "append" X.env (eval (.Name x p) X.env) = eval (.Name x p) X.env)
    (hfew : ((backTo cpos (starEach [a] X.env)).all (fun x => !x.1) && (backToKw cpos (keywordEach [] X.env)).all (fun x => x.1.isSome) && decide ([a].length + ([] : List Keyword).length + (if ([] : List Keyword).isEmpty then 0 else 1) < 30)) = true)
    (hline : (apos.endLine == cpos.line) = true) (hs : starEach [a] X.env = (false, eval a X.env) :: starEach [] X.env) (hplain : (backTo cpos (starEach [] X.env)).any (·.1) = false)
    (hsw : swapsWith (.Call (.Attribute (.Name x p) "append" apos) [a] [] cpos) none pos.line X.env = pure false) :
    PS X (.Expr (.Call (.Attribute (.Name x p) "append" apos) [a] [] cpos) pos) (tS c rt (sApp i fa)) := st_append hK n.n n.v n.d n.cd hk ha ca hbase hfew hline hs hplain hsw
section
variable {elt tgE iter : Expr} {ifs : List Expr} {scope : Scope} {own : List (Str × Nat)} {tst : Option EF} {fe : EF} {ety : Ty} {y : Str} {py spos : Pos} {ow : List Nat}
theorem e_lc' (hc : X.calm = true) (hN : X.N.Nodup) (hi : PI X tgE iter (tI c gm fi)) (ok : BlkOk X.N X.env.scope scope own)
    (hg : ∀ (s : Shared) (H : Hp) (C : Addr) (cl : List (Str × Addr)) (fp : List Addr), PG (X.blk s H scope (compEnvC scope cl C X.env) fp) tgE (tG c.quiet t))
    (ht : ∀ (s : Shared) (H : Hp) (C : Addr) (cl : List (Str × Addr)) (fp : List Addr), PTs (X.blk s H scope (compEnvC scope cl C X.env) fp) ifs (tTo c.quiet tst))
    (he : ∀ (s : Shared) (H : Hp) (C : Addr) (cl : List (Str × Addr)) (fp : List Addr), PE (X.blk s H scope (compEnvC scope cl C X.env) fp) elt (tV c.quiet ety fe))
    (ce : coe ety .fz = true) (hw : ∀ j ∈ tgSlots t, j ∈ own.map (·.2)) (hs : ∀ x, foldedSetIterable iter X.env x = pure x) (ho : own.map (·.2) = ow) :
    PE X (.ListComp elt [⟨tgE, iter, ifs, 0⟩] scope pos) (tV c (.fr (.lst .fz)) (lcF t tst fe fi ow)) := by subst ho; exact e_lc hc hN hi ok hg ht he ce hw hs
theorem e_setLc' (hc : X.calm = true) (n : Lo X.N X.env.scope i y) (hyl : X.env.scope.names.lookup y = some .local) (hi : PI X tgE iter (tI c gm fi)) (ok : BlkOk X.N X.env.scope scope own)
    (hg : ∀ (s : Shared) (H : Hp) (C : Addr) (cl : List (Str × Addr)) (fp : List Addr), PG (X.blk s H scope (compEnvC scope cl C X.env) fp) tgE (tG c.quiet t))
    (ht : ∀ (s : Shared) (H : Hp) (C : Addr) (cl : List (Str × Addr)) (fp : List Addr), PTs (X.blk s H scope (compEnvC scope cl C X.env) fp) ifs (tTo c.quiet tst))
    (he : ∀ (s : Shared) (H : Hp) (C : Addr) (cl : List (Str × Addr)) (fp : List Addr), PE (X.blk s H scope (compEnvC scope cl C X.env) fp) elt (tV c.quiet ety fe))
    (ce : coe ety .fz = true) (hw : ∀ j ∈ tgSlots t, j ∈ own.map (·.2)) (hs : ∀ x, foldedSetIterable iter X.env x = pure x) (ho : own.map (·.2) = ow)
    (hsw : swapsWith (.ListComp elt [⟨tgE, iter, ifs, 0⟩] scope pos) (some (.Name y py)) spos.line X.env = pure true)
    (hk : c.Ks[i]? = some (.ve .fz)) : PS X (.Assign [.Name y py] (.ListComp elt [⟨tgE, iter, ifs, 0⟩] scope pos) spos) (tS c rt (sSet i (lcF t tst fe fi ow))) := by subst ho; exact e_setLc hc n hyl hi ok hg ht he ce hw hs hsw hk
theorem p_one {X' : Cx} (h : PT X' a (tT c fa)) : PTs X' [a] (tTo c (some fa)) := pts_one h
theorem p_nil {X' : Cx} : PTs X' [] (tTo c none) := pts_nil
end
end
end Ev

set_option maxHeartbeats 4000000
namespace Ev
open PySem PySem.Spec PyProof.Rows L2
abbrev AlE : Type := He.AlD × Bool
def obsE (fa : List He.Fa) (fn : List He.DefD) (ex : PySem.W.Frag → Bool) (K : PySem.W.Frag) : AlE := (He.obsD fa fn K, ex K)
def SaysE (fa : List He.Fa) (fn : List He.DefD) (ex : PySem.W.Frag → Bool) (K : PySem.W.Frag) : Prop := obsE fa fn ex K = (He.valD fn, true)
def obsEG (n : Nat) (fa : List He.Fa) (fn : List He.DefD) (ex : PySem.W.Frag → Bool) (g : Addr → Option Obj) : AlE := obsE fa fn ex (He.frG g (PySem.cStatics :: He.asD g n))
def hookE (n : Nat) (fa : List He.Fa) (fn : List He.DefD) (ex : PySem.W.Frag → Bool) : PySem.W.Hook where
  α := AlE
  obs := fun s => obsEG n fa fn ex s.heap.get?
  val := fun _ => (He.valD fn, true)
  says := fun _ h => ∃ K : PySem.W.Frag, K.In h ∧ SaysE fa fn ex K
  of := fun _ _ e => ⟨_, He.frG_in, e⟩
  keeps := fun _ _ _ ⟨K, hK, c⟩ k => ⟨K, PySem.W.Frag.In.keeps hK k, c⟩
theorem SaysE.d {fa : List He.Fa} {fn : List He.DefD} {ex : PySem.W.Frag → Bool} {K : PySem.W.Frag} (c : SaysE fa fn ex K) : He.SaysD fa fn K := congrArg (fun z : AlE => z.1) c
theorem SaysE.x {fa : List He.Fa} {fn : List He.DefD} {ex : PySem.W.Frag → Bool} {K : PySem.W.Frag} (c : SaysE fa fn ex K) : ex K = true := congrArg (fun z : AlE => z.2) c
/-- a law: its script walks to True -/
theorem law_end [Wd] {K : PySem.W.Frag} {H : Hp} {a : Addr} {ns : List Int} {φ : Fn} (hS : SqL K H a (ns.map V.int)) (h : φ [.lck ns] = some (.ok (.bl true))) :
    spE K ⟨[.fz], .vw .fz⟩ φ [.ref a] H (fun v _ => v = .bl true) fun _ _ _ => False := by
  refine ⟨H, [.lck ns], Same.refl _, ⟨.ref a, [], rfl, ⟨[], Own.of_is ?_⟩, by simp only [ViewL]⟩, ?_⟩
  · simp only [Is]
    exact ⟨a, rfl, hS⟩
  · rw [h]
    intro v F' H' _ p
    obtain ⟨A, p⟩ := p
    have := p.is
    simpa only [Is] using this
theorem law_cx {P : Program} {w : World} (H : Hp) (s : Shared) (e : Value) (s' : Shared) : L2.CX P w [] H s (fun _ _ _ => False) e s' → False := by
  rintro ⟨a, B, H', cls, d, _, _, _, _, _, _, _, h⟩
  exact h
theorem walk_ofW {l : PySem.W.OpenLaw} {n k : Nat} {q : Program} {loose : List Str} {XP : (Str → Option Value) → Heap → Prop} {YP : World → Heap → Prop} {d : DefRec} {x : Str}
    (hn : l.most = some n) (hn2 : n ≤ sizeLine) (hdf : d.params.defaults = []) (hr : Room k callerA)
    (F : ∀ (w : World) (mg : Str → Option Value) (fa : Addr) (h : Heap), YP w h → h.Ns mainGlobals mg → mg d.name = some (.ref fa) →
      ∃ (K : PySem.W.Frag) (fd : FuncData) (sp : Sp), K.In h ∧ (∀ (s : Shared) (u : Value), BindsTo s fd ⟨[u], []⟩ [(x, u)]) ∧
        (∀ (H : Hp) (a : Addr) (ns : List Int), ns.length ≤ n → SqL K H a (ns.map V.int) → sp [.ref a] H (fun v _ => v = .bl true) fun _ _ _ => False) ∧
        ∀ base : Heap, K.In base → base.Ns mainGlobals mg → FnOk l.prog w K mg base (L2.CX l.prog w) k fa fd [x] sp) :
    PySem.W.WalkO q loose XP YP l.row.toRowW d [] (fun f vs => PySem.call f vs) := by
  refine Att.attach_call hn hdf fun w s₀ s₁ mg mb fa o pm cd doc a vs ns G Y ho hd hcd hmg hobj hints hlen hg => ?_
  obtain ⟨K, fd, sp, KX, hb, hsp, hF⟩ := F w mg fa _ Y G.T.g hmg
  exact law_call KX G.T.g G.T.b G.T.builtins G.T.nolimit hg hobj hints (Nat.le_trans hlen hn2) hr hF hb (fun H hO hS => hsp H a ns hlen hS) fun H e s' => law_cx H s₁ e s'
end Ev

set_option maxHeartbeats 4000000
namespace Ev
open PySem PySem.Spec PyProof.Rows L2
variable [Wd]
variable {X : Cx} {c : Cp} {F G H F' G' H' : Hp} {σ : L2.St} {δ : Env} {a b e tg : Expr} {es : List Expr} {pos p : Pos} {x : Str} {ta tb tc ty rt : Ty} {oa ob oc o : OT} {os : List OT} {fa fb fc : Env → Option R} {fs : Env → Option RL} {st : Stmt} {ss : List Stmt}
/-- one field of the objects' fields, taken out and put back -/
theorem OwnS.at {K : PySem.W.Frag} : ∀ {os : List OT} {ds : List D} {vs : List V} {B : List Addr} {j : Nat} {o : OT} {d : D}, OwnS K F H os ds vs B → B.Nodup → os[j]? = some o → ds[j]? = some d →
    ∃ v Aj, vs[j]? = some v ∧ Own K F H o d v Aj ∧ (∀ a ∈ Aj, a ∈ B) ∧ Aj.Nodup ∧ ∀ {F' H' : Hp} {d' : D} {v' : V} {Aj' : List Addr}, Same F F' → (∀ a ∈ B, a ∉ Aj → H' a = H a) → Own K F' H' o d' v' Aj' → Aj'.Nodup → (∀ a ∈ Aj', a ∈ Aj ∨ a ∉ B) →
      ∃ B', OwnS K F' H' os (ds.set j d') (vs.set j v') B' ∧ B'.Nodup ∧ ∀ a ∈ B', (a ∈ B ∧ a ∉ Aj) ∨ a ∈ Aj'
  | os, [], vs, B, j, o, d, h, nd, e1, e2 => by simp at e2
  | [], d1 :: ds, vs, B, j, o, d, h, nd, e1, e2 => by simp at e1
  | o1 :: os, d1 :: ds, vs, B, 0, o, d, h, nd, e1, e2 => by
    cases e1; cases e2
    simp only [OwnS] at h
    obtain ⟨v, r, A1, A2, rfl, h1, h2, rfl⟩ := h
    obtain ⟨n1, n2, n3⟩ := List.nodup_append.mp nd
    refine ⟨v, A1, rfl, h1, fun a ha => List.mem_append_left _ ha, n1, fun {F' H' d' v' Aj'} s k ow nj inj => ⟨Aj' ++ A2, ?_, ?_, fun a ha => ?_⟩⟩
    · exact ⟨v', r, Aj', A2, rfl, ow, OwnS.frame s h2 fun b hb => k b (List.mem_append_right _ hb) fun hb1 => n3 b hb1 b hb rfl, rfl⟩
    · refine List.nodup_append.mpr ⟨nj, n2, fun a ha b hb e => ?_⟩
      subst e
      rcases inj a ha with q | q
      · exact n3 a q a hb rfl
      · exact q (List.mem_append_right _ hb)
    · rcases List.mem_append.mp ha with q | q
      · exact .inr q
      · exact .inl ⟨List.mem_append_right _ q, fun q1 => n3 a q1 a q rfl⟩
  | o1 :: os, d1 :: ds, vs, B, j + 1, o, d, h, nd, e1, e2 => by
    simp only [OwnS] at h
    obtain ⟨v, r, A1, A2, rfl, h1, h2, rfl⟩ := h
    obtain ⟨n1, n2, n3⟩ := List.nodup_append.mp nd
    obtain ⟨w, Aj, e3, h3, sub, nj, put⟩ := OwnS.at (j := j) h2 n2 (by simpa using e1) (by simpa using e2)
    refine ⟨w, Aj, by simpa using e3, h3, fun a ha => List.mem_append_right _ (sub a ha), nj, fun {F' H' d' v' Aj'} s k ow nj' inj => ?_⟩
    obtain ⟨B', o2, nB, iB⟩ := put s (fun a ha na => k a (List.mem_append_right _ ha) na) ow nj' fun a ha => (inj a ha).imp id fun q q2 => q (List.mem_append_right _ q2)
    have dis : ∀ a ∈ A1, a ∉ B' := fun a ha hb => by
      rcases iB a hb with q | q
      · exact n3 a ha a q.1 rfl
      · rcases inj a q with z | z
        · exact n3 a ha a (sub a z) rfl
        · exact z (List.mem_append_left _ ha)
    refine ⟨A1 ++ B', ?_, List.nodup_append.mpr ⟨n1, nB, fun a ha b hb e => dis a ha (e ▸ hb)⟩, fun a ha => ?_⟩
    · exact ⟨v, _, A1, B', rfl, Own.frame s h1 fun b hb => k b (List.mem_append_left _ hb) fun q => n3 b hb b (sub b q) rfl, o2, rfl⟩
    · rcases List.mem_append.mp ha with q | q
      · exact .inl ⟨List.mem_append_left _ q, fun z => n3 a q a (sub a z) rfl⟩
      · rcases iB a q with z | z
        · exact .inl ⟨List.mem_append_right _ z.1, z.2⟩
        · exact .inr z
/-- a name that owns (an argument's object: pn) -/
def OwnK (Ks : List Kd) (i : Nat) (o : OT) : Prop := Ks[i]? = some (.ow o) ∨ ∃ v, Ks[i]? = some (.pn o v)
/-- what a name owns, and its change (the footprint at hand) -/
theorem EnvOk.own {K : PySem.W.Frag} {Ks : List Kd} {F0 : Hp} (E : EnvOk K Ks F0 G F H σ δ) {i : Nat} {o : OT} {d : D} (hk : OwnK Ks i o) (hd : δ[i]? = some (some d)) :
    ∃ v A, σ[i]? = some (some v) ∧ Own K F H o d v A ∧ A.Nodup ∧ (∀ a ∈ A, F a = none ∧ G a = none) ∧ ∀ {F' H' : Hp} {d' : D} {A' : List Addr}, Own K F' H' o d' v A' → A'.Nodup → Same F F' → Same F' H' → (∀ a, a ∉ A → F a = none → H a ≠ none → F' a = none) → (∀ a ∈ A', a ∈ A ∨ H a = none) →
      (∀ a ∈ A', F' a = none) → (∀ a, a ∉ A → H a ≠ none → H' a = H a) → EnvOk K Ks F0 G F' H' σ (δ.set i (some d')) := by
  obtain ⟨As, h1, h2, h3, h4⟩ := EnvOk.sl E
  obtain ⟨k0, hk0, v, hv, s0, s, mk⟩ : ∃ k0, Ks[i]? = some k0 ∧ ∃ v, σ[i]? = some (some v) ∧ SlotOk K F G H k0 d v (As i) ∧ Own K F H o d v (As i) ∧ ∀ {F' H' : Hp} {d' : D} {A' : List Addr}, Own K F' H' o d' v A' → SlotOk K F' G H' k0 d' v A' := by
    rcases hk with hk | ⟨v0, hk⟩
    · obtain ⟨v, hv, s⟩ := h1 i _ d hk hd
      exact ⟨_, hk, v, hv, s, s, fun h => h⟩
    · obtain ⟨v, hv, s⟩ := h1 i _ d hk hd
      exact ⟨_, hk, v, hv, s, s.2, fun h => ⟨s.1, h⟩⟩
  have nra : NoRA Ks i := by rcases hk with hk | ⟨v0, hk⟩ <;> exact noRA hk rfl
  have hk := hk0
  have hi : i < Ks.length := (List.getElem?_eq_some_iff.mp hk).1
  refine ⟨v, As i, hv, s, h2 i, fun a ha => ⟨(h4 i a ha).1, (h4 i a ha).2.1⟩, fun {F' H' d' A'} o1 o2 ff fh fr inA nf keep => ?_⟩
  have keepG : ∀ a, G a ≠ none → H' a = G a := fun a g => by
    rw [keep a (fun ha => g (h4 i a ha).2.1) (Same.some E.gh g)]; exact Same.eq E.gh g
  refine ⟨E.ls, by rw [List.length_set]; exact E.ld, fun a u g => ?_, E.f0.trans ff, fh, fun a e g => fr a (fun ha => g (h4 i a ha).2.1) (E.fr a e g) (Same.some E.gh g), (E.al.keep h1 h2 fun l o1 x b hb => keep b (fun hb' => nra.2 o1 ((h3 l i b hb hb') ▸ x)) (h4 l b hb).2.2).setD nra _, fun j => if j = i then A' else As j, fun j k e e1 e2 => ?_, fun j => ?_, fun j l a ha hb => ?_, fun j a ha => ?_⟩
  · rw [keepG a (by rw [g]; simp)]; exact g
  · rcases getElem?_set_or e2 with ⟨rfl, e3⟩ | ⟨ne, e3⟩
    · cases e3
      rw [hk] at e1; cases e1
      refine ⟨v, hv, ?_⟩
      have := mk o1
      show SlotOk K F' G H' k0 d' v (if j = j then A' else As j)
      rw [if_pos rfl]; exact this
    · obtain ⟨w, e4, s⟩ := h1 j k e e1 e3
      refine ⟨w, e4, ?_⟩
      cases k with
      | ve o =>
        obtain ⟨B, s⟩ := s
        exact ⟨B, s.frame ff fun _ _ => rfl⟩
      | rd o v0 =>
        obtain ⟨er, B, s⟩ := s
        exact ⟨er, B, s.frame ff fun _ _ => rfl⟩
      | ow o =>
        show Own K F' H' o e w (if j = i then A' else As j)
        rw [if_neg ne]
        exact Own.frame ff (show Own K F H o e w (As j) from s) fun a ha => keep a (fun hb => ne (h3 j i a ha hb)) (h4 j a ha).2.2
      | pn o v0 =>
        refine ⟨s.1, ?_⟩
        show Own K F' H' o e w (if j = i then A' else As j)
        rw [if_neg ne]
        exact Own.frame ff (show Own K F H o e w (As j) from s.2) fun a ha => keep a (fun hb => ne (h3 j i a ha hb)) (h4 j a ha).2.2
      | ar o =>
        show Own K F' H' o e w (if j = i then A' else As j)
        rw [if_neg ne]
        exact Own.frame ff (show Own K F H o e w (As j) from s) fun a ha => keep a (fun hb => ne (h3 j i a ha hb)) (h4 j a ha).2.2
      | pr o v0 =>
        refine ⟨s.1, ?_⟩
        show Own K F' H' o e w (if j = i then A' else As j)
        rw [if_neg ne]
        exact Own.frame ff (show Own K F H o e w (As j) from s.2) fun a ha => keep a (fun hb => ne (h3 j i a ha hb)) (h4 j a ha).2.2
      | al i o => trivial
  · show (if j = i then A' else As j).Nodup
    split
    · exact o2
    · exact h2 j
  · have key : ∀ l a, l ≠ i → a ∈ As l → a ∈ A' → False := fun l a ne ha hb => by
      rcases inA a hb with z | z
      · exact ne (h3 l i a ha z)
      · exact (h4 l a ha).2.2 z
    have ha' : a ∈ (if j = i then A' else As j) := ha
    have hb' : a ∈ (if l = i then A' else As l) := hb
    by_cases e1 : j = i <;> by_cases e2 : l = i
    · rw [e1, e2]
    · rw [if_pos e1] at ha'; rw [if_neg e2] at hb'; exact (key l a e2 hb' ha').elim
    · rw [if_neg e1] at ha'; rw [if_pos e2] at hb'; exact (key j a e1 ha' hb').elim
    · rw [if_neg e1] at ha'; rw [if_neg e2] at hb'; exact h3 j l a ha' hb'
  · have ha' : a ∈ (if j = i then A' else As j) := ha
    by_cases e1 : j = i
    · rw [if_pos e1] at ha'
      refine ⟨nf a ha', ?_, o1.there a ha'⟩
      rcases inA a ha' with z | z
      · exact (h4 i a z).2.1
      · cases q : G a with
        | none => rfl
        | some u => exact absurd (E.gh a u q) (by rw [z]; simp)
    · rw [if_neg e1] at ha'
      obtain ⟨x1, x2, x3⟩ := h4 j a ha'
      refine ⟨fr a (fun hb => e1 (h3 j i a ha' hb)) x1 x3, x2, ?_⟩
      rw [keep a (fun hb => e1 (h3 j i a ha' hb)) x3]; exact x3
end Ev

set_option maxHeartbeats 4000000
namespace Ev
open PySem PySem.Spec PyProof.Rows L2
variable [Wd]
variable {X : Cx} {c : Cp} {F G H F' G' H' : Hp} {σ : L2.St} {δ : Env} {a b e tg : Expr} {es : List Expr} {pos p : Pos} {x : Str} {ta tb tc ty rt : Ty} {oa ob oc o : OT} {os : List OT} {fa fb fc : Env → Option R} {fs : Env → Option RL} {st : Stmt} {ss : List Stmt}
def insAt (δ : Env) (i ci : Nat) : Option (List D) := match δ[i]? with
  | some (some (.ins k ds)) => if k = ci then some ds else none
  | _ => none
/-- self.f -/
def fSelf (i ci j : Nat) : EF := fun δ => (insAt δ i ci).bind fun ds => okO ds[j]?
/-- self.f = e, the field there already -/
def sFset (i ci j : Nat) (fa : EF) : So := fun δ => bndS (fa δ) δ fun d => (insAt δ i ci).bind fun ds => if j < ds.length then some (.nx (δ.set i (some (.ins ci (ds.set j d))))) else none
def sFapp (i ci j : Nat) (fa : EF) : So := fun δ => (insAt δ i ci).bind fun ds0 => (match ds0[j]? with | some (.lst _) => some () | _ => none).bind fun _ => bndS (fa δ) δ fun d => (insAt δ i ci).bind fun ds => match ds[j]? with
  | some (.lst xs) => if xs.length < sizeLine then some (.nx (δ.set i (some (.ins ci (ds.set j (.lst (xs ++ [d]))))))) else none
  | _ => none
end Ev

set_option maxHeartbeats 4000000
namespace Ev
open PySem PySem.Spec PyProof.Rows L2
variable [Wd]
variable {X : Cx} {c : Cp} {F G H F' G' H' : Hp} {σ : L2.St} {δ : Env} {a b e tg : Expr} {es : List Expr} {pos p : Pos} {x : Str} {ta tb tc ty rt : Ty} {oa ob oc o : OT} {os : List OT} {fa fb fc : Env → Option R} {fs : Env → Option RL} {st : Stmt} {ss : List Stmt} {A A' : List Addr}
inductive RI where
  | ok (d s : D) | ex (x : Xd) (s : D)
abbrev FnI := D → List D → Option RI
/-- growth, but for the objects at A -/
structure UpX (F H : Hp) (A : List Addr) (F' H' : Hp) (A' : List Addr) : Prop where
  ff : Same F F'
  fh : Same F' H'
  fr : ∀ a, a ∉ A → F a = none → H a ≠ none → F' a = none
  keep : ∀ a, a ∉ A → H a ≠ none → H' a = H a
  inA : ∀ a ∈ A', a ∈ A ∨ H a = none
  nf : ∀ a ∈ A', F' a = none
  nd : A'.Nodup
def GIo (K : PySem.W.Frag) (F H : Hp) (A : List Addr) (o : OT) (v0 : V) (Q : VK) (E : XK) : Option RI → Prop
  | some (.ok d s) => ∀ v F' H' A', UpX F H A F' H' A' → Own K F' H' o s v0 A' → Is K F' d v → Q v H'
  | some (.ex x s) => ∀ cls u dx F' H' A', RelV cls u → UpX F H A F' H' A' → Own K F' H' o s v0 A' → XRep K F' H' x cls dx → E u dx H'
  | none => False
def spIo (K : PySem.W.Frag) (o : OT) (n : Nat) (φ : FnI) : Sp := fun vs H Q E => ∃ F d0 v0 ds r A, vs = v0 :: r ∧ ds.length = n ∧ Same F H ∧ Own K F H o d0 v0 A ∧ A.Nodup ∧ (∀ a ∈ A, F a = none) ∧ IsL K F ds r ∧ GIo K F H A o v0 Q E (φ d0 ds)
def slot0 (δ : Env) (k : D → Option RI) : Option RI := match δ[0]? with
  | some (some s) => k s
  | _ => none
def outI : Option Out → Option RI
  | some (.nx δ) => slot0 δ fun s => some (.ok .non s)
  | some (.ret d δ) => slot0 δ fun s => some (.ok d s)
  | some (.ex x δ) => slot0 δ fun s => some (.ex x s)
  | _ => none
def defI (n : Nat) (g : So) : FnI := fun d0 ds => outI (g (startE n (d0 :: ds)))
def hid (H : Hp) (A : List Addr) : Hp := fun a => if a ∈ A then none else H a
section
variable {P : Program} {w : World} {K : PySem.W.Frag} {mg : Str → Option Value} {base : Heap} {xn qual : Str} {params : Arguments} {body : List Stmt} {scope : Scope} {dvs : List V} {kws : List (Str × V)} {f : Addr} {fd : FuncData}
/-- a body that changes its first argument -/
def BodyIo (P : Program) (w : World) (K : PySem.W.Frag) (mg : Str → Option Value) (base : Heap) (N : List Str) (qual : Str) (scope : Scope) (f : Addr) (k : Nat) (o : OT) (Kt : List Kd) (body : List Stmt) (g : So) : Prop :=
  ∀ (cdv : Value) (A : Around) (outer : List PySem.Env) (s : Shared) (H : Hp) (E : XK) (c : Cp) (v0 : V), Room k (A.deeper (envOfC qual scope s.heap.objs.size f cdv)) → c.K = K → c.Ks = .pn o v0 :: Kt →
    Takes (cxOf (L2.CX P w) P w K mg base N qual scope f cdv A outer s H E) c.W → PSs (cxOf (L2.CX P w) P w K mg base N qual scope f cdv A outer s H E) body (tS c (.vw .fz) g)
end
end Ev

set_option maxHeartbeats 4000000
namespace Ev
open PySem PySem.Spec PyProof.Rows L2
variable [Wd]
variable {X : Cx} {c : Cp} {F G H F' G' H' : Hp} {σ : L2.St} {δ : Env} {a b e tg : Expr} {es : List Expr} {pos p : Pos} {x : Str} {ta tb tc ty rt : Ty} {oa ob oc o : OT} {os : List OT} {fa fb fc : Env → Option R} {fs : Env → Option RL} {st : Stmt} {ss : List Stmt} {A A' : List Addr}
/-- o.m(..), the wish about errors told by the slots -/
def tMethSD (C : Addr) (m : Str) (sp : Sp) (E : L2.St → XK) (ta : TE) (t : TA) : TE := fun σ H Q => ta σ H fun x H1 => ∃ a dx fs, x = .ref a ∧ H1 a = some (.ins C dx fs) ∧ fs.lookup m = none ∧ t σ H1 fun vs H2 => sp (x :: vs) H2 Q (E σ)
section
variable {CX : CXT} {k : Nat} {f C : Addr} {fd : FuncData} {ps : List Str} {sp : Sp} {E : L2.St → XK} {ob : Expr} {m : Str} {apos : Pos} {te : TE} {t : TA}
end
/-- a method that may be called on a name's object -/
structure MCal (P : Program) (w : World) (K : PySem.W.Frag) (mg : Str → Option Value) (base : Heap) (ci : Nat) (m : Str) (k : Nat) (os : List OT) (n : Nat) (φ : FnI) : Prop where
  ex : ∃ (f : Addr) (fd : FuncData) (ps : List Str), FnOk P w K mg base (L2.CX P w) k f fd ps (spIo K (.ins os) n φ) ∧ Meth K (clsA K ci) m f ∧ Binds K fd ps []
  nf : m ∉ (clsT ci).fields
def doM (i : Nat) (δ : Env) (r : Option RI) (k : D → Env → Option Out) : Option Out := match r with
  | some (.ok d s) => k d (δ.set i (some s))
  | some (.ex x s) => some (.ex x (δ.set i (some s)))
  | none => none
def sMeth (i ci : Nat) (φ : FnI) (fs : EL) : So := fun δ => (insAt δ i ci).bind fun sd => bndSL (fs δ) δ fun ds => doM i δ (φ (.ins ci sd) ds) fun _ δ' => some (.nx δ')
end Ev

set_option maxHeartbeats 4000000
namespace Ev
open PySem PySem.Spec PyProof.Rows L2
variable [Wd]
variable {X : Cx} {c : Cp} {F G H F' G' H' : Hp} {σ : L2.St} {δ : Env} {a b e tg : Expr} {es : List Expr} {pos p : Pos} {x : Str} {ta tb tc ty rt : Ty} {oa ob oc o : OT} {os : List OT} {fa fb fc : Env → Option R} {fs : Env → Option RL} {st : Stmt} {ss : List Stmt} {A A' : List Addr}
theorem OwnS.snoc {K : PySem.W.Frag} {d : D} {v : V} (sF : Same F F') : ∀ {os : List OT} {ds : List D} {vs : List V} {B : List Addr}, OwnS K F H os ds vs B → (∀ b ∈ B, H' b = H b) → os[ds.length]? = some o → Own K F' H' o d v A' → OwnS K F' H' os (ds ++ [d]) (vs ++ [v]) (B ++ A')
  | [], [], vs, B, h, k, e, ow => by simp at e
  | o1 :: os, [], vs, B, h, k, e, ow => by
    simp at e
    subst e
    simp only [OwnS] at h
    obtain ⟨rfl, rfl⟩ := h
    exact ⟨v, [], A', [], rfl, ow, by simp [OwnS], by simp⟩
  | o1 :: os, d1 :: ds, vs, B, h, k, e, ow => by
    simp only [OwnS] at h
    obtain ⟨w, r, A1, A2, rfl, h1, h2, rfl⟩ := h
    exact ⟨w, r ++ [v], A1, A2 ++ A', rfl, Own.frame sF h1 fun b hb => k b (by simp [hb]), OwnS.snoc sF h2 (fun b hb => k b (by simp [hb])) (by simpa using e) ow, by simp⟩
  | [], d1 :: ds, vs, B, h, k, e, ow => by simp [OwnS] at h
/-- self.f = e, a field that was not there -/
def sFnew (i ci j : Nat) (fa : EF) : So := fun δ => bndS (fa δ) δ fun d => (insAt δ i ci).bind fun ds => if j = ds.length then some (.nx (δ.set i (some (.ins ci (ds ++ [d]))))) else none
structure MkC (P : Program) (w : World) (K : PySem.W.Frag) (mg : Str → Option Value) (base : Heap) (ci : Nat) (k : Nat) (os : List OT) (n : Nat) (φ : FnI) : Prop where
  ex : ∃ (f : Addr) (fd : FuncData) (ps : List Str), FnOk P w K mg base (L2.CX P w) k f fd ps (spIo K (.ins os) n φ) ∧ Mk K (clsA K ci) f ∧ Binds K fd ps []
  g : mg (clsT ci).name = some (.ref (clsA K ci))
/-- what a maker's call is worth -/
def mkD (ci : Nat) (φ : FnI) (ds : List D) : Option D := match φ (.ins ci []) ds with
  | some (.ok .non s) => some s
  | _ => none
end Ev

set_option maxHeartbeats 4000000
namespace Ev
open PySem PySem.Spec PyProof.Rows L2
variable [Wd]
variable {X : Cx} {c : Cp} {F G H F' G' H' : Hp} {σ : L2.St} {δ : Env} {a b e tg : Expr} {es : List Expr} {pos p : Pos} {x : Str} {ta tb tc ty rt : Ty} {oa ob oc o : OT} {os : List OT} {fa fb fc : Env → Option R} {fs : Env → Option RL} {st : Stmt} {ss : List Stmt} {A A' : List Addr}
def Cp.bor (c : Cp) (i : Nat) (o : OT) (v0 : V) (F0 G : Hp) : Cp := { c with Ks := c.Ks.set i (.rd o v0), F0 := F0, G := G }
def keepE (i : Nat) (d : D) (δ : Env) (k : Env → Out) : Option Out := match δ[i]? with
  | some (some _) => some (k (δ.set i (some d)))
  | _ => none
def keepO (i : Nat) (d : D) : Option Out → Option Out
  | some (.nx δ) => keepE i d δ .nx
  | some (.brk δ) => keepE i d δ .brk
  | some (.ct δ) => keepE i d δ .ct
  | some (.ret r δ) => keepE i d δ (.ret r)
  | some (.ex x δ) => keepE i d δ (.ex x)
  | none => none
def sBor (i : Nat) (g : So) : So := fun δ => match δ[i]? with
  | some (some d) => keepO i d (g δ)
  | _ => none
/-- nothing else is only read -/
def Plain (Ks : List Kd) (i : Nat) : Prop := ∀ j k, j ≠ i → Ks[j]? = some k → k = .ve .fz ∨ (∃ o, k = .ow o) ∨ (∃ o v, k = .pn o v) ∨ (∃ o, k = .ar o) ∨ (∃ o v, k = .pr o v) ∨ ∃ i o, k = .al i o
def Kd.pl : Kd → Bool
  | .ve .fz => true
  | .ow _ => true
  | .pn _ _ => true
  | .ar _ => true
  | .pr _ _ => true
  | .al _ _ => true
  | _ => false
open Classical in
theorem EnvOk.bor {K : PySem.W.Frag} {Ks : List Kd} {F0 : Hp} (E : EnvOk K Ks F0 G F H σ δ) {i : Nat} {d : D} (hk : OwnK Ks i o) (hp : Plain Ks i) (hd : δ[i]? = some (some d)) :
    ∃ v0 G', Same G G' ∧ EnvOk K (Ks.set i (.rd o v0)) F G' F H σ δ ∧ ∀ {F1 H1 : Hp} {σ1 : L2.St} {δ1 : Env} {d1 : D}, EnvOk K (Ks.set i (.rd o v0)) F G' F1 H1 σ1 δ1 → δ1[i]? = some (some d1) → EnvOk K Ks F0 G F1 H1 σ1 (δ1.set i (some d)) := by
  obtain ⟨As, h1, h2, h3, h4⟩ := EnvOk.sl E
  obtain ⟨k0, hk0, v0, hv, ow, mk⟩ : ∃ k0, Ks[i]? = some k0 ∧ ∃ v, σ[i]? = some (some v) ∧ Own K F H o d v (As i) ∧ ∀ {F' H' : Hp} {d' : D} {A' : List Addr}, Own K F' H' o d' v A' → SlotOk K F' G H' k0 d' v A' := by
    rcases hk with hk | ⟨v0, hk⟩
    · obtain ⟨v, hv, s⟩ := h1 i _ d hk hd
      exact ⟨_, hk, v, hv, s, fun h => h⟩
    · obtain ⟨v, hv, s⟩ := h1 i _ d hk hd
      exact ⟨_, hk, v, hv, s.2, fun h => ⟨s.1, h⟩⟩
  have nra : NoRA Ks i := by rcases hk with hk | ⟨v0, hk⟩ <;> exact noRA hk rfl
  have hi : i < Ks.length := (List.getElem?_eq_some_iff.mp hk0).1
  let G' : Hp := fun a => if ∃ j, j ≠ i ∧ a ∈ As j then none else H a
  have gN : ∀ {a j}, j ≠ i → a ∈ As j → G' a = none := fun {a j} ne ha => if_pos ⟨j, ne, ha⟩
  have gS : ∀ {a}, (∀ j, j ≠ i → a ∉ As j) → G' a = H a := fun {a} h => if_neg fun ⟨j, ne, ha⟩ => h j ne ha
  have gI : ∀ a ∈ As i, G' a = H a := fun a ha => gS fun j ne hj => ne (h3 j i a hj ha)
  have gG : Same G G' := fun a u e => by
    rw [gS fun j _ hj => by rw [(h4 j a hj).2.1] at e; cases e]
    exact E.gh a u e
  have gH : Same G' H := fun a u e => by
    by_cases z : ∃ j, j ≠ i ∧ a ∈ As j
    · rw [show G' a = none from if_pos z] at e; cases e
    · rw [show G' a = H a from if_neg z] at e; exact e
  refine ⟨v0, G', gG, ⟨by rw [List.length_set]; exact E.ls, by rw [List.length_set]; exact E.ld, gH, Same.refl _, E.fh, fun a e _ => e, E.al.kind nra rfl, fun j => if j = i then [] else As j, fun j k e e1 e2 => ?_, fun j => ?_, fun j l a ha hb => ?_, fun j a ha => ?_⟩, fun {F1 H1 σ1 δ1 d1} E1 hd1 => ?_⟩
  · by_cases q : j = i
    · subst q
      rw [List.getElem?_set_self hi] at e1
      cases e1
      rw [hd] at e2; cases e2
      exact ⟨v0, hv, rfl, As j, ow.frame (Same.refl _) gI⟩
    · rw [List.getElem?_set_ne (Ne.symm q)] at e1
      obtain ⟨w, e4, s⟩ := h1 j k e e1 e2
      refine ⟨w, e4, ?_⟩
      rcases hp j k q e1 with rfl | ⟨o1, rfl⟩ | ⟨o1, w1, rfl⟩ | ⟨o1, rfl⟩ | ⟨o1, w1, rfl⟩ | ⟨l1, o1, rfl⟩
      · obtain ⟨B, s⟩ := s
        exact ⟨[], Own.of_is s.is⟩
      · show Own K F H o1 e w (if j = i then [] else As j)
        rw [if_neg q]; exact s
      · refine ⟨s.1, ?_⟩
        show Own K F H o1 e w (if j = i then [] else As j)
        rw [if_neg q]; exact s.2
      · show Own K F H o1 e w (if j = i then [] else As j)
        rw [if_neg q]; exact s
      · refine ⟨s.1, ?_⟩
        show Own K F H o1 e w (if j = i then [] else As j)
        rw [if_neg q]; exact s.2
      · trivial
  · show (if j = i then [] else As j).Nodup
    split
    · exact List.nodup_nil
    · exact h2 j
  · have ha' : a ∈ (if j = i then [] else As j) := ha
    have hb' : a ∈ (if l = i then [] else As l) := hb
    split at ha' <;> split at hb'
    · cases ha'
    · cases ha'
    · cases hb'
    · exact h3 j l a ha' hb'
  · have ha' : a ∈ (if j = i then [] else As j) := ha
    split at ha'
    · cases ha'
    · rename_i ne
      obtain ⟨x1, x2, x3⟩ := h4 j a ha'
      exact ⟨x1, gN ne ha', x3⟩
  · obtain ⟨As1, k1, k2, k3, k4⟩ := EnvOk.sl E1
    obtain ⟨v1, hv1, s1⟩ := k1 i _ d1 (List.getElem?_set_self hi) hd1
    obtain ⟨ev, _⟩ : v1 = v0 ∧ ∃ B, Own K F1 G' o d1 v1 B := s1
    subst ev
    have aG : ∀ a ∈ As i, G' a ≠ none := fun a ha => by rw [gI a ha]; exact (h4 i a ha).2.2
    have aH : ∀ a ∈ As i, H1 a = H a := fun a ha => (Same.eq E1.gh (aG a ha)).trans (gI a ha)
    refine ⟨by have := E1.ls; rwa [List.length_set] at this, by have := E1.ld; rw [List.length_set] at this ⊢; exact this, gG.trans E1.gh, E.f0.trans E1.f0, E1.fh, fun a e g => E1.fr a (E.fr a e g) (Same.some gG g), E1.al.unkind rfl nra _, fun j => if j = i then As i else As1 j, fun j k e e1 e2 => ?_, fun j => ?_, fun j l a ha hb => ?_, fun j a ha => ?_⟩
    · rcases getElem?_set_or e2 with ⟨rfl, e3⟩ | ⟨ne, e3⟩
      · cases e3
        rw [hk0] at e1; cases e1
        have := mk (ow.frame E1.f0 aH)
        refine ⟨v1, hv1, ?_⟩
        show SlotOk K F1 G H1 k0 d v1 (if j = j then As j else As1 j)
        rw [if_pos rfl]; exact this
      · obtain ⟨w, e4, s⟩ := k1 j k e (by rw [List.getElem?_set_ne (Ne.symm ne)]; exact e1) e3
        refine ⟨w, e4, ?_⟩
        rcases hp j k ne e1 with rfl | ⟨o1, rfl⟩ | ⟨o1, w1, rfl⟩ | ⟨o1, rfl⟩ | ⟨o1, w1, rfl⟩ | ⟨l1, o1, rfl⟩
        · obtain ⟨B, s⟩ := s
          exact ⟨[], Own.of_is s.is⟩
        · show Own K F1 H1 o1 e w (if j = i then As i else As1 j)
          rw [if_neg ne]; exact s
        · refine ⟨s.1, ?_⟩
          show Own K F1 H1 o1 e w (if j = i then As i else As1 j)
          rw [if_neg ne]; exact s.2
        · show Own K F1 H1 o1 e w (if j = i then As i else As1 j)
          rw [if_neg ne]; exact s
        · refine ⟨s.1, ?_⟩
          show Own K F1 H1 o1 e w (if j = i then As i else As1 j)
          rw [if_neg ne]; exact s.2
        · trivial
    · show (if j = i then As i else As1 j).Nodup
      split
      · exact h2 i
      · exact k2 j
    · have ha' : a ∈ (if j = i then As i else As1 j) := ha
      have hb' : a ∈ (if l = i then As i else As1 l) := hb
      split at ha' <;> split at hb'
      · rename_i e1 e2; rw [e1, e2]
      · exact absurd (k4 l a hb').2.1 (aG a ha')
      · exact absurd (k4 j a ha').2.1 (aG a hb')
      · exact k3 j l a ha' hb'
    · have ha' : a ∈ (if j = i then As i else As1 j) := ha
      split at ha'
      · obtain ⟨x1, x2, x3⟩ := h4 i a ha'
        exact ⟨E1.fr a x1 (aG a ha'), x2, by rw [aH a ha']; exact x3⟩
      · obtain ⟨x1, x2, x3⟩ := k4 j a ha'
        refine ⟨x1, ?_, x3⟩
        cases q : G a with
        | none => rfl
        | some u => rw [gG a u q] at x2; cases x2
end Ev

set_option maxHeartbeats 4000000
namespace Ev
open PySem PySem.Spec PyProof.Rows L2
variable [Wd]
variable {X : Cx} {c : Cp} {F G H F' G' H' : Hp} {σ : L2.St} {δ : Env} {a b e tg : Expr} {es : List Expr} {pos p : Pos} {x : Str} {ta tb tc ty rt : Ty} {oa ob oc o : OT} {os : List OT} {fa fb fc : Env → Option R} {fs : Env → Option RL} {st : Stmt} {ss : List Stmt} {A A' : List Addr}
def sFpop (i ci j : Nat) : So := fun δ => (insAt δ i ci).bind fun ds => match ds[j]? with
  | some (.lst xs) => if xs.length = 0 then none else some (.nx (δ.set i (some (.ins ci (ds.set j (.lst xs.dropLast))))))
  | _ => none
theorem isL_dropLast {K : PySem.W.Frag} {ds : List D} {vs : List V} (h : IsL K F ds vs) : IsL K F ds.dropLast vs.dropLast := by
  rw [List.dropLast_eq_take, List.dropLast_eq_take, h.length]
  exact h.take _
def sFaug (i ci j : Nat) (fa : EF) : So := fun δ => (insAt δ i ci).bind fun ds => (match ds[j]? with | some (.int m) => some m | _ => none).bind fun m => bndS (fa δ) δ fun d => match d with
  | .int k => some (.nx (δ.set i (some (.ins ci (ds.set j (.int (m + k)))))))
  | _ => none
def setAll (k : Key) (v : D) : List Key → List D → List D
  | j :: ks, d :: ds => (if j = k then v else d) :: setAll k v ks ds
  | _, _ => []
def putKs (k : Key) (ks : List Key) : List Key := if (ks.any fun j => decide (j = k)) = true then ks else ks ++ [k]
def putDs (k : Key) (v : D) (ks : List Key) (ds : List D) : List D := if (ks.any fun j => decide (j = k)) = true then setAll k v ks ds else ds ++ [v]
/-- self.f[k] = e, f a dict by texts and whole numbers -/
def dicAt (δ : Env) (i ci j : Nat) : Option (List D × List Key × List D) := (insAt δ i ci).bind fun ds => match ds[j]? with
  | some (.dic ks vs) => some (ds, ks, vs)
  | _ => none
def sFdput (i ci j : Nat) (fk fv : EF) : So := fun δ => bndS (fv δ) δ fun v => (dicAt δ i ci j).bind fun q => bndS (fk δ) δ fun y => (keyD y).bind fun k => if q.2.1.length < sizeLine then some (.nx (δ.set i (some (.ins ci (q.1.set j (.dic (putKs k q.2.1) (putDs k v q.2.1 q.2.2))))))) else none
end Ev

set_option maxHeartbeats 4000000
namespace Ev
open PySem PySem.Spec PyProof.Rows L2
variable [Wd]
variable {X : Cx} {c : Cp} {F G H F' G' H' : Hp} {σ : L2.St} {δ : Env} {a b e tg : Expr} {es : List Expr} {pos p : Pos} {x : Str} {ta tb tc ty rt : Ty} {oa ob oc o : OT} {os : List OT} {fa fb fc : Env → Option R} {fs : Env → Option RL} {st : Stmt} {ss : List Stmt} {A A' : List Addr}
def sPop (i : Nat) : So := fun δ => (lstAt δ i).bind fun ds => if ds.length = 0 then none else some (.nx (δ.set i (some (.lst ds.dropLast))))
theorem st_pop {i : Nat} {apos cpos : Pos} (n : Nm X.N X.env.scope i x) (hk : c.Ks[i]? = some (.ow (.lst .fz))) (hbase : attributeBase (.Name x p) "pop" X.env (eval (.Name x p) X.env) = eval (.Name x p) X.env)
    (hline : (apos.endLine == cpos.line) = true) (hsw : swapsWith (.Call (.Attribute (.Name x p) "pop" apos) [] [] cpos) none pos.line X.env = pure false) :
    PS X (.Expr (.Call (.Attribute (.Name x p) "pop" apos) [] [] cpos) pos) (tS c rt (sPop i)) := by
  refine PS.imp (ps_expr (pe_bm0 PySem.F.plainAttrs_list PySem.F.slot_list_pop PySem.F.type_list_pop mt_pop (pe_var n.n n.v n.d n.cd) hbase hline) hsw) fun D σ H h => ?_
  obtain ⟨F, δ, E, h⟩ := h
  obtain ⟨ds, e1, h⟩ := bind_someO h
  by_cases g : ds.length = 0
  · rw [if_pos g] at h; exact h.elim
  · rw [if_neg g] at h
    obtain ⟨l, vs, eσ, hl, hI, put⟩ := EnvOk.lst E hk (lstAt_some e1)
    have hw : vs.length = ds.length := hI.length
    exact ⟨_, eσ, .inl ⟨rfl, vs, SqL.of hl⟩, l, vs, vs[vs.length - 1], rfl, rfl, hl, List.getElem?_eq_getElem (by omega), Gs.nx h (put _ _ (isL_dropLast hI))⟩
def sExt (i : Nat) (fa : EF) : So := fun δ => (lstAt δ i).bind fun _ => bndS (fa δ) δ fun d => (lstAt δ i).bind fun ds => match d with
  | .lst es => if ds.length + es.length ≤ sizeLine then some (.nx (δ.set i (some (.lst (ds ++ es))))) else none
  | _ => none
theorem st_extend {i : Nat} {apos cpos : Pos} (hK : X.K = c.K) (n : Nm X.N X.env.scope i x) (hk : c.Ks[i]? = some (.ow (.lst .fz))) (ha : PE X a (tV c ta fa)) (ca : coe ta .fz = true)
    (hbase : attributeBase (.Name x p) "extend" X.env (eval (.Name x p) X.env) = eval (.Name x p) X.env)
    (hfew : ((backTo cpos (starEach [a] X.env)).all (fun x => !x.1) && (backToKw cpos (keywordEach [] X.env)).all (fun x => x.1.isSome) && decide ([a].length + ([] : List Keyword).length + (if ([] : List Keyword).isEmpty then 0 else 1) < 30)) = true)
    (hline : (apos.endLine == cpos.line) = true) (hs : starEach [a] X.env = (false, eval a X.env) :: starEach [] X.env) (hplain : (backTo cpos (starEach [] X.env)).any (·.1) = false)
    (hsw : swapsWith (.Call (.Attribute (.Name x p) "extend" apos) [a] [] cpos) none pos.line X.env = pure false) :
    PS X (.Expr (.Call (.Attribute (.Name x p) "extend" apos) [a] [] cpos) pos) (tS c rt (sExt i fa)) := by
  refine PS.imp (ps_expr (pe_bm PySem.F.plainAttrs_list PySem.F.slot_list_extend PySem.F.type_list_extend mt_extend (pe_var n.n n.v n.d n.cd) (pa_cons ha pa_nil hs) hbase hfew hline hs hplain) hsw) fun D σ H h => ?_
  obtain ⟨F, δ, E, h⟩ := h
  obtain ⟨ds, e1, h⟩ := bind_someO h
  have hd0 := lstAt_some e1
  obtain ⟨l, vs, eσ, hl, hI, _⟩ := EnvOk.lst E hk hd0
  refine ⟨_, eσ, .inl ⟨rfl, vs, SqL.of hl⟩, ?_⟩
  refine tV.goS ca E h fun d v F1 H1 u1 E1 ⟨A, hx⟩ h1 => ?_
  obtain ⟨ds1, e2, h1⟩ := bind_someO h1
  rw [e1] at e2; cases e2
  obtain ⟨l2, vs2, eσ2, hl2, hI2, put⟩ := EnvOk.lst E1 hk hd0
  rw [eσ] at eσ2; cases eσ2
  cases d with
  | lst es =>
    have h1 : Gs c rt F1 D (if ds.length + es.length ≤ sizeLine then some (.nx (δ.set i (some (.lst (ds ++ es))))) else none) := h1
    by_cases g : ds.length + es.length ≤ sizeLine
    · rw [if_pos g] at h1
      have q := hx.is
      simp only [Is] at q
      obtain ⟨b0, ws, rfl, hb, hJ⟩ := q
      exact ⟨l, b0, vs2, ws, rfl, rfl, hl2, u1.fh _ _ hb, by rw [hI2.length, hJ.length]; exact g, Gs.nx h1 (put _ _ (hI2.append hJ))⟩
    · rw [if_neg g] at h1; exact h1.elim
  | _ => exact h1.elim
def catD (x y : D) : Option D := match x, y with
  | .lst xs, .lst ys => if xs.length + ys.length ≤ sizeLine then some (.lst (xs ++ ys)) else none
  | _, _ => none
def fCat (fa fb : EF) : EF := fBin catD fa fb
def strL (ys : List Str) : D := .lst (ys.map D.str)
def splitD (x : D) (ds : List D) : Option D := match x, ds with
  | .str z, [.str w] => if (w.length == 0) = false ∧ z.length + 2 ≤ sizeLine ∧ (Txt.split z w).all PyData.strOk = true then some (strL (Txt.split z w)) else none
  | _, _ => none
def findD (x : D) (ds : List D) : Option D := match x, ds with
  | .str z, [.str w] => some (.int (Txt.find z w))
  | _, _ => none
def iRevD (fs : EL) : EL := fun δ => match fs δ with
  | some (.ok [.lst ds]) => some (.ok ds.reverse)
  | some (.ok _) => none
  | r => r
end Ev

set_option maxHeartbeats 4000000
namespace Ev
open PySem PySem.Spec PyProof.Rows L2
variable [Wd]
variable {X : Cx} {c : Cp} {F G H F' G' H' : Hp} {σ : L2.St} {δ : Env} {a b e tg : Expr} {es : List Expr} {pos p : Pos} {x : Str} {ta tb tc ty rt : Ty} {oa ob oc o : OT} {os : List OT} {fa fb fc : Env → Option R} {fs : Env → Option RL} {st : Stmt} {ss : List Stmt} {A A' : List Addr}
section
variable {CX : CXT} {k : Nat} {f C : Addr} {fd : FuncData} {ps : List Str} {sp : Sp} {E : L2.St → XK} {ob : Expr} {m : Str} {apos : Pos} {te : TE}
end
/-- a method of an object that is only read -/
structure PCal (P : Program) (w : World) (K : PySem.W.Frag) (mg : Str → Option Value) (base : Heap) (ci : Nat) (m : Str) (k : Nat) (sg : Sig) (φ : Fn) : Prop where
  ex : ∃ (f : Addr) (fd : FuncData) (ps : List Str), FnOk P w K mg base (L2.CX P w) k f fd ps (spE K sg φ) ∧ Meth K (clsA K ci) m f ∧ Binds K fd ps []
  nf : m ∉ (clsT ci).fields
def isIns (ci : Nat) : D → Bool
  | .ins k _ => k == ci
  | _ => false
def fPm (ci : Nat) (φ : Fn) (fa : EF) (fs : EL) : EF := fun δ => bnd (fa δ) fun d => if isIns ci d then bndL (fs δ) fun ds => φ (d :: ds) else none
def fPm0 (ci : Nat) (φ : Fn) (fa : EF) : EF := fun δ => bnd (fa δ) fun d => if isIns ci d then φ [d] else none
structure PrCal (P : Program) (w : World) (K : PySem.W.Frag) (mg : Str → Option Value) (base : Heap) (ci : Nat) (m : Str) (k : Nat) (ret : Ty) (φ : Fn) : Prop where
  ex : ∃ (p0 f : Addr) (fd : FuncData) (ps : List Str), FnOk P w K mg base (L2.CX P w) k f fd ps (spE K ⟨[.fz], ret⟩ φ) ∧ PropOf K (clsA K ci) m p0 f ∧ Binds K fd ps []
def okOnly : Option R → Option R
  | some (.ok d) => some (.ok d)
  | _ => none
def fProp (ci : Nat) (φ : Fn) (fa : EF) : EF := fun δ => bnd (fa δ) fun d => if isIns ci d then okOnly (φ [d]) else none
end Ev

set_option maxHeartbeats 4000000
namespace Ev
open PySem PySem.Spec PyProof.Rows L2
variable [Wd]
variable {X : Cx} {c : Cp} {F G H F' G' H' : Hp} {σ : L2.St} {δ : Env} {a b e tg : Expr} {es : List Expr} {pos p : Pos} {x : Str} {ta tb tc ty rt : Ty} {oa ob oc o : OT} {os : List OT} {fa fb fc : Env → Option R} {fs : Env → Option RL} {st : Stmt} {ss : List Stmt} {A A' : List Addr}
theorem OwnS.get {K : PySem.W.Frag} : ∀ {os : List OT} {ds : List D} {vs : List V} {B : List Addr} {j : Nat} {o : OT} {d : D}, OwnS K F H os ds vs B → os[j]? = some o → ds[j]? = some d → ∃ v Aj, vs[j]? = some v ∧ Own K F H o d v Aj
  | os, [], vs, B, j, o, d, h, e1, e2 => by simp at e2
  | [], d1 :: ds, vs, B, j, o, d, h, e1, e2 => by simp at e1
  | o1 :: os, d1 :: ds, vs, B, 0, o, d, h, e1, e2 => by
    cases e1; cases e2
    simp only [OwnS] at h
    obtain ⟨v, r, A1, A2, rfl, h1, h2, rfl⟩ := h
    exact ⟨v, A1, rfl, h1⟩
  | o1 :: os, d1 :: ds, vs, B, j + 1, o, d, h, e1, e2 => by
    simp only [OwnS] at h
    obtain ⟨v, r, A1, A2, rfl, h1, h2, rfl⟩ := h
    obtain ⟨w, Aj, e3, h3⟩ := OwnS.get (j := j) h2 (by simpa using e1) (by simpa using e2)
    exact ⟨w, Aj, by simpa using e3, h3⟩
/-- a statement that is never reached -/
def sNever : So := fun _ => none
theorem st_never : PS X st (tS c rt sNever) := by
  refine PS.imp ps_never fun D σ H h => ?_
  obtain ⟨F, δ, E, h⟩ := h
  exact h.elim
end Ev

set_option maxHeartbeats 4000000
namespace Ev
open PySem PySem.Spec PyProof.Rows L2
variable [Wd]
variable {X : Cx} {c : Cp} {F G H F' G' H' : Hp} {σ : L2.St} {δ : Env} {a b e tg : Expr} {es : List Expr} {pos p : Pos} {x : Str} {ta tb tc ty rt : Ty} {oa ob oc o : OT} {os : List OT} {fa fb fc : Env → Option R} {fs : Env → Option RL} {st : Stmt} {ss : List Stmt} {A A' : List Addr}
def isCl (ci : Nat) : D → Bool
  | .cl k => k == ci
  | _ => false
def fMakeL (i ci : Nat) (φ : FnI) (fs : EL) : EF := fun δ => bnd (evVar i δ) fun d => if isCl ci d then bndL (fs δ) fun ds => okO (mkD ci φ ds) else none
section
variable {CX : CXT} {k : Nat} {C pr g : Addr} {fd : FuncData} {ps : List Str} {sp : Sp} {E : L2.St → XK} {mc : Value} {m : Str} {apos : Pos} {te : TE} {t : TA}
def tCMethSD (C : Addr) (sp : Sp) (E : L2.St → XK) (ta : TE) (t : TA) : TE := fun σ H Q => ta σ H fun x H1 => x = .ref C ∧ t σ H1 fun vs H2 => sp (.ref C :: vs) H2 Q (E σ)
end
/-- a classmethod -/
structure CmCal (P : Program) (w : World) (K : PySem.W.Frag) (mg : Str → Option Value) (base : Heap) (ci : Nat) (m : Str) (k : Nat) (sg : Sig) (φ : Fn) : Prop where
  ex : ∃ (mc : Value) (pr f : Addr) (fd : FuncData) (ps : List Str), FnOk P w K mg base (L2.CX P w) k f fd ps (spE K sg φ) ∧ ClX.CRead K (clsA K ci) mc ∧ ClX.CMet K (clsA K ci) mc m pr f ∧ Binds K fd ps []
  g : mg (clsT ci).name = some (.ref (clsA K ci))
def fCm (ci : Nat) (φ : Fn) (fs : EL) : EF := fun δ => bndL (fs δ) fun ds => φ (.cl ci :: ds)
end Ev

set_option maxHeartbeats 4000000
namespace Ev
open PySem PySem.Spec PyProof.Rows L2
variable [Wd]
variable {X : Cx} {c : Cp} {F G H F' G' H' : Hp} {σ : L2.St} {δ : Env} {a b e tg : Expr} {es : List Expr} {pos p : Pos} {x : Str} {ta tb tc ty rt : Ty} {oa ob oc o : OT} {os : List OT} {fa fb fc : Env → Option R} {fs : Env → Option RL} {st : Stmt} {ss : List Stmt} {A A' : List Addr}
def fldC (ci j : Nat) : D → Option D
  | .ins k ds => if k = ci then ds[j]? else none
  | _ => none
def fFldC (ci j : Nat) (fa : EF) : EF := fun δ => bnd (fa δ) fun d => okO (fldC ci j d)
def fMake0 (ci : Nat) (φ : FnI) : EF := fun _ => okO (mkD ci φ [])
/-- a name's object handed out, not to be changed any more -/
def sRetFz (i : Nat) : So := fun δ => bndS (evVar i δ) δ fun d => some (.ret d (δ.set i none))
end Ev

set_option maxHeartbeats 4000000
namespace Ev
open PySem PySem.Spec PyProof.Rows L2
variable [Wd]
variable {X : Cx} {c : Cp} {F G H F' G' H' : Hp} {σ : L2.St} {δ : Env} {a b e tg : Expr} {es : List Expr} {pos p : Pos} {x : Str} {ta tb tc ty rt : Ty} {oa ob oc o : OT} {os : List OT} {fa fb fc : Env → Option R} {fs : Env → Option RL} {st : Stmt} {ss : List Stmt} {A A' : List Addr}
def GlF (c : Cp) (F H : Hp) (σ : L2.St) (Q : List V → Hp → Prop) : Option RL → Prop
  | some (.ok ds) => ∀ vs F' H', Up F H F' H' → IsL c.K F' ds vs → Q vs H'
  | some (.ex x) => Bad c F H σ x
  | none => False
def tF (c : Cp) (f : EL) : TA := fun σ H Q => ∃ F δ, c.E F H σ δ ∧ GlF c F H σ Q (f δ)
def starL (r : Option R) (k : Option RL) : Option RL := match r with
  | some (.ok d) => (match d, k with
    | .lst xs, some (.ok ys) => some (.ok (xs ++ ys))
    | .tup xs, some (.ok ys) => some (.ok (xs ++ ys))
    | .lst _, some (.ex x) => some (.ex x)
    | .tup _, some (.ex x) => some (.ex x)
    | _, _ => none)
  | some (.ex x) => some (.ex x)
  | none => none
def lStar (fa : EF) (fs : EL) : EL := fun δ => starL (fa δ) (fs δ)
theorem f_nil : PA X [] (tF c lNil) := by
  refine PA.imp pa_nil fun σ H Q h => ?_
  obtain ⟨F, δ, E, h⟩ := h
  exact h [] F H (Up.refl E.fh) (by simp only [IsL])
theorem f_cons (he : PE X e (tV c ta fa)) (hr : PA X es (tF c fs)) (ca : coe ta .fz = true) (hs : starEach (e :: es) X.env = (false, eval e X.env) :: starEach es X.env) : PA X (e :: es) (tF c (lCons fa fs)) := by
  refine PA.imp (pa_cons he hr hs) fun σ H Q h => ?_
  obtain ⟨F, δ, E, h⟩ := h
  change GlF c F H σ Q (consL (fa δ) (fs δ)) at h
  refine ⟨F, δ, E, ?_⟩
  cases e1 : fa δ with
  | none => rw [e1] at h; exact h
  | some r =>
    rw [e1] at h
    cases r with
    | ex x => exact h
    | ok d =>
      intro v F1 H1 u p
      obtain ⟨F2, u2, s2, A, ow⟩ := p.coe u ca
      refine ⟨F2, δ, E.up u2, ?_⟩
      cases e2 : fs δ with
      | none => rw [e2] at h; exact h
      | some r =>
        rw [e2] at h
        cases r with
        | ex x => exact Bad.up h u2
        | ok ds => exact fun vs F3 H3 u3 w => h (v :: vs) F3 H3 (u2.trans u3) ⟨v, vs, rfl, ow.is.mono u3.ff, w⟩
theorem f_star {ps : Pos} (hK : X.K = c.K) (he : PE X e (tV c ta fa)) (hr : PA X es (tF c fs)) (ca : coe ta .fz = true) (hs : starEach (.Starred e ps :: es) X.env = (true, eval e X.env) :: starEach es X.env) : PA X (.Starred e ps :: es) (tF c (lStar fa fs)) := by
  refine PA.imp (StX.pa_star he hr hs) fun σ H Q h => ?_
  obtain ⟨F, δ, E, h⟩ := h
  change GlF c F H σ Q (starL (fa δ) (fs δ)) at h
  refine ⟨F, δ, E, ?_⟩
  cases e1 : fa δ with
  | none => rw [e1] at h; exact h
  | some r =>
    rw [e1] at h
    cases r with
    | ex x => exact h
    | ok d =>
      intro v F1 H1 u p
      obtain ⟨F2, u2, s2, A, ow⟩ := p.coe u ca
      have go : ∀ xs vs0, IsL c.K F2 xs vs0 → GlF c F H σ Q (match fs δ with | some (.ok ys) => some (.ok (xs ++ ys)) | some (.ex x) => some (.ex x) | none => none) → tF c fs σ H1 fun ys H2 => Q (vs0 ++ ys) H2 := fun xs vs0 hi h => by
        refine ⟨F2, δ, E.up u2, ?_⟩
        cases e2 : fs δ with
        | none => rw [e2] at h; exact h
        | some r =>
          rw [e2] at h
          cases r with
          | ex x => exact Bad.up h u2
          | ok ds => exact fun vs F3 H3 u3 w => h (vs0 ++ vs) F3 H3 (u2.trans u3) ((hi.mono u3.ff).append w)
      cases d with
      | lst xs =>
        have q := ow.is
        simp only [Is] at q
        obtain ⟨p0, vs0, rfl, hp, hi⟩ := q
        refine ⟨p0, vs0, rfl, .inr (SqL.of (u2.fh _ _ hp)), go xs vs0 hi ?_⟩
        cases e2 : fs δ with
        | none => rw [e2] at h; exact h
        | some r => rw [e2] at h; cases r <;> exact h
      | tup xs =>
        have q := ow.is
        simp only [Is] at q
        obtain ⟨p0, vs0, rfl, hp, hi⟩ := q
        refine ⟨p0, vs0, rfl, .inl ((hp.mono u2.fh).sq), go xs vs0 hi ?_⟩
        cases e2 : fs δ with
        | none => rw [e2] at h; exact h
        | some r => rw [e2] at h; cases r <;> exact h
      | _ => exact h.elim
def fLstF (fs : EL) : EF := fun δ => bndL (fs δ) fun ds => if ds.length ≤ 1000 then some (.ok (.lst ds)) else none
end Ev

set_option maxHeartbeats 4000000
namespace Ev
open PySem PySem.Spec PyProof.Rows L2
variable [Wd]
variable {X : Cx} {c : Cp} {F G H F' G' H' : Hp} {σ : L2.St} {δ : Env} {a b e tg : Expr} {es : List Expr} {pos p : Pos} {x : Str} {ta tb tc ty rt : Ty} {oa ob oc o : OT} {os : List OT} {fa fb fc : Env → Option R} {fs : Env → Option RL}
/-- at the name x of the module: this table -/
def TabOk (K : PySem.W.Frag) (w : World) (mg : Str → Option Value) (x : Str) (kvs : List (Str × Int)) : Prop := ∃ a es n, mg x = some (.ref a) ∧ KDict K w a es n ∧
  ∀ z : Str, (∃ i u, kvs.lookup z = some i ∧ PySem.W.nsIn K a z = some (some u) ∧ RelV (.int i) u) ∨ (kvs.lookup z = none ∧ PySem.W.nsIn K a z = some none)
def inT (neg : Bool) (kvs : List (Str × Int)) (d : D) : Option Bool := match d with
  | .str z => some (if neg then !(kvs.lookup z).isSome else (kvs.lookup z).isSome)
  | _ => none
def fInT (neg : Bool) (kvs : List (Str × Int)) (fa : EF) : EF := fun δ => bnd (fa δ) fun d => okB (inT neg kvs d)
def ixT (kvs : List (Str × Int)) (d : D) : Option D := match d with
  | .str z => (kvs.lookup z).map D.int
  | _ => none
def fIxT (kvs : List (Str × Int)) (fa : EF) : EF := fun δ => bnd (fa δ) fun d => okO (ixT kvs d)
end Ev

set_option maxHeartbeats 4000000
namespace Ev
open PySem PySem.Spec PyProof.Rows L2
variable [Wd]
theorem funA {K : PySem.W.Frag} {kd : String} {a : Addr} {d : He.DefD} (hk : kd ≠ "init") (e : fnA K kd a = d.val) (c : okA K a d = true) : ∃ fd, FunD K d.name d.qual d.params d.body d.scope (d.dvs K) (d.kws K) a fd := by
  obtain ⟨kp, c2⟩ := He.ba c
  unfold fnA at e
  cases q : K.lookup a with
  | none => rw [q] at c2; cases c2
  | some o =>
    obtain ⟨oc, od, dt, osl⟩ := o
    rw [q] at c2 e
    cases dt with
    | func fd =>
      obtain ⟨n1, n2, n3, n4, n5, n6, n7, n8, n9, n10, n11, n12, n13, n14, n15⟩ := fd
      have e1 : (some (n1, n2, n3, n4, n5, n6, if kd = "init" then [] else n7, n15) : He.FnW) = some (d.name, d.qual, d.params, .stmts d.body, d.scope, mainGlobals, [], builtinsNs) := e
      rw [if_neg hk] at e1
      have e2 : (some (n1, n2, n3, n4, n5, n6, n7, n15) : He.FnW) = some (d.name, d.qual, d.params, .stmts d.body, d.scope, mainGlobals, [], builtinsNs) := e1
      simp only [Option.some.injEq, Prod.mk.injEq] at e2
      obtain ⟨h1, h2, h3, h4, h5, h6, h7, h8⟩ := e2
      subst h1 h2 h3 h4 h5 h6 h7 h8
      have c3 : (PySem.W.codeIn K n13 d.qual && (He.dflB K n8 (d.dvs K) && He.kwdB K n9 (d.kws K))) = true := c2
      obtain ⟨k1, k2⟩ := He.ba c3
      obtain ⟨k3, k4⟩ := He.ba k2
      exact ⟨_, ⟨oc, od, n8, n9, n10, n11, n12, n13, n14, osl, rfl, q, k1, He.dflB_ok k3, He.kwdB_ok k4⟩, kp⟩
    | _ => cases c2
section
variable {fa : List He.Fa} {fn : List He.DefD} {ts : List He.Tab} {pf : List PfD} {ex : PySem.W.Frag → Bool} {w : World} {K : PySem.W.Frag}
theorem SaysH.t (c : SaysH fa fn ts pf ex w K) : He.SaysT fa fn ts w K := congrArg (fun z : AlH => z.1) c
theorem SaysH.d (c : SaysH fa fn ts pf ex w K) : He.SaysD fa fn K := c.t.d
theorem SaysH.x (c : SaysH fa fn ts pf ex w K) : ex K = true := (He.ba (show ((pf.all fun q => okA K (q.addr K) q.d) && ex K) = true from congrArg (fun z : AlH => z.2.1) c)).2
theorem SaysH.p (c : SaysH fa fn ts pf ex w K) (i : Nat) {q : PfD} (h : pf[i]? = some q) (hk : q.kind ≠ "init") : ∃ fd, FunD K q.d.name q.d.qual q.d.params q.d.body q.d.scope (q.d.dvs K) (q.d.kws K) (q.addr K) fd := by
  have c1 := (He.ba (show ((pf.all fun q => okA K (q.addr K) q.d) && ex K) = true from congrArg (fun z : AlH => z.2.1) c)).1
  have c2 : (pf.map fun q => fnA K q.kind (q.addr K)) = pf.map fun q => q.d.val := congrArg (fun z : AlH => z.2.2) c
  have c3 : (pf.map fun q => fnA K q.kind (q.addr K))[i]? = (pf.map fun q => q.d.val)[i]? := by rw [c2]
  rw [List.getElem?_map, List.getElem?_map, h] at c3
  exact funA hk (Option.some.inj c3) (List.all_eq_true.mp c1 q (List.mem_of_getElem? h))
/-- the function of an error's __init__: all but its closure -/
theorem SaysH.i (c : SaysH fa fn ts pf ex w K) (i : Nat) {q : PfD} (h : pf[i]? = some q) (hk : q.kind = "init") : PySem.W.keepIn K (.ref (He.ma K (He.ga K q.cls) q.meth)) = true ∧ ∃ (oc : Value) (od : Option Addr) (osl : Array (Option Value)) (fd : FuncData), K.lookup (He.ma K (He.ga K q.cls) q.meth) = some ⟨oc, od, .func fd, osl⟩ ∧ fd.name = q.d.name ∧ fd.qualname = q.d.qual ∧ fd.params = q.d.params ∧ fd.body = .stmts q.d.body ∧ fd.scope = q.d.scope ∧ fd.globals = mainGlobals ∧ fd.builtins = builtinsNs ∧
    PySem.W.codeIn K fd.code q.d.qual = true ∧ He.dflB K fd.defaults (q.d.dvs K) = true ∧ He.kwdB K fd.kwdefaults (q.d.kws K) = true := by
  have c1 := (He.ba (show ((pf.all fun q => okA K (q.addr K) q.d) && ex K) = true from congrArg (fun z : AlH => z.2.1) c)).1
  have c2 : (pf.map fun q => fnA K q.kind (q.addr K)) = pf.map fun q => q.d.val := congrArg (fun z : AlH => z.2.2) c
  have c3 : (pf.map fun q => fnA K q.kind (q.addr K))[i]? = (pf.map fun q => q.d.val)[i]? := by rw [c2]
  rw [List.getElem?_map, List.getElem?_map, h] at c3
  have e : fnA K q.kind (q.addr K) = q.d.val := Option.some.inj c3
  obtain ⟨kp, c4⟩ := He.ba (show okA K (q.addr K) q.d = true from List.all_eq_true.mp c1 q (List.mem_of_getElem? h))
  have ea : q.addr K = He.ma K (He.ga K q.cls) q.meth := if_pos hk
  rw [← ea]
  refine ⟨kp, ?_⟩
  unfold fnA at e
  cases z : K.lookup (q.addr K) with
  | none => rw [z] at c4; cases c4
  | some o =>
    obtain ⟨oc, od, dt, osl⟩ := o
    rw [z] at c4 e
    cases dt with
    | func fd =>
      have e2 : (some (fd.name, fd.qualname, fd.params, fd.body, fd.scope, fd.globals, if q.kind = "init" then [] else fd.closure, fd.builtins) : He.FnW) = some (q.d.name, q.d.qual, q.d.params, .stmts q.d.body, q.d.scope, mainGlobals, [], builtinsNs) := e
      simp only [Option.some.injEq, Prod.mk.injEq] at e2
      obtain ⟨h1, h2, h3, h4, h5, h6, _, h8⟩ := e2
      have c5 : (PySem.W.codeIn K fd.code q.d.qual && (He.dflB K fd.defaults (q.d.dvs K) && He.kwdB K fd.kwdefaults (q.d.kws K))) = true := c4
      obtain ⟨k1, k2⟩ := He.ba c5
      obtain ⟨k3, k4⟩ := He.ba k2
      exact ⟨oc, od, osl, fd, rfl, h1, h2, h3, h4, h5, h6, h8, k1, k3, k4⟩
    | _ => cases c4
theorem SaysH.dic (c : SaysH fa fn ts pf ex w K) (i : Nat) {t : He.Tab} (h : ts[i]? = some t) : He.dicW K (t.1 K) = some (He.keysIn w.params t.2) := by
  have e : ts.map (fun t => He.dicW K (t.1 K)) = ts.map fun t => some (He.keysIn w.params t.2) := congrArg (fun z : He.AlT => z.2) c.t
  have e2 : (ts.map fun t => He.dicW K (t.1 K))[i]? = (ts.map fun t => some (He.keysIn w.params t.2))[i]? := by rw [e]
  rw [List.getElem?_map, List.getElem?_map, h] at e2
  exact Option.some.inj e2
end
end Ev

set_option maxHeartbeats 4000000
namespace Ev
open PySem PySem.Spec PyProof.Rows L2
variable [Wd]
variable {X : Cx} {c : Cp} {F G H F' G' H' : Hp} {σ : L2.St} {δ : Env} {a b e tg : Expr} {es : List Expr} {pos p zp zpos : Pos} {x : Str} {fs : Env → Option RL}
def lzD (l : List D) : Option D := match l with
  | [.lst ds, .lst es] => some (.lst (zipL ds es))
  | [.tup ds, .tup es] => some (.lst (zipL ds es))
  | _ => none
def fLz (fs : EL) : EF := fun δ => bndL (fs δ) fun ds => okO (lzD ds)
theorem lz_isL {K : PySem.W.Frag} {F F2 : Hp} (s : Same F F2) : ∀ {ds es : List D} {vs ws : List V} {ts : List Addr}, IsL K F ds vs → IsL K F es ws → Paired (fun (t : Addr) (q : V × V) => ∃ o, F2 t = some (.frz o (.tup [q.1, q.2])) ∧ Obj.dict o = none) ts (vs.zip ws) → IsL K F2 (zipL ds es) (ts.map V.ref)
  | [], es, vs, ws, ts, hi, hj, hp => by
    simp only [IsL] at hi
    subst hi
    cases hp
    simp [zipL, IsL]
  | x :: ds, [], vs, ws, ts, hi, hj, hp => by
    simp only [IsL] at hj
    subst hj
    rw [List.zip_nil_right] at hp
    cases hp
    simp [zipL, IsL]
  | x :: ds, y :: es, vs, ws, ts, hi, hj, hp => by
    simp only [IsL] at hi hj
    obtain ⟨v, r, rfl, hv, hi⟩ := hi
    obtain ⟨w, r', rfl, hw, hj⟩ := hj
    rw [List.zip_cons_cons] at hp
    cases hp with
    | cons h t =>
      simp only [zipL, IsL, List.map_cons]
      refine ⟨_, _, rfl, ?_, lz_isL s hi hj t⟩
      simp only [Is]
      exact ⟨_, _, rfl, .inl h, v, [w], rfl, hv.mono s, w, [], rfl, hw.mono s, rfl⟩
theorem lz_fin {vs ws : List V} {ds es : List D} {Q : VK} (u : Same F H) (hi : IsL c.K F ds vs) (hj : IsL c.K F es ws) (h : ∀ v F' H', Up F H F' H' → Post c.K H F' H' (.fr (.lst .fz)) (.lst (zipL ds es)) v → Q v H') :
    ∀ (H' : Hp) (p : Addr) (ts : List Addr), (∀ b o, H b = some o → H' b = some o) → H p = none → (∀ t ∈ ts, H t = none) → p ∉ ts → H' p = some (.lst (ts.map V.ref)) → Paired (fun (t : Addr) (q : V × V) => ∃ o, H' t = some (.frz o (.tup [q.1, q.2])) ∧ Obj.dict o = none) ts (vs.zip ws) → Q (.ref p) H' := by
  intro H' p ts k1 k2 k3 k4 k5 k6
  have nF : ∀ b, H b = none → F b = none := fun b hb => by
    cases q : F b with
    | none => rfl
    | some o => rw [u _ _ q] at hb; cases hb
  have up : Up F H (fun b => if b ∈ ts then H' b else F b) H' := by
    refine ⟨fun b o e => ?_, k1, fun a e1 e2 => ?_, fun b o e => ?_⟩
    · show (if b ∈ ts then H' b else F b) = some o
      rw [if_neg (fun z => by rw [nF b (k3 b z)] at e; cases e)]
      exact e
    · show (if a ∈ ts then H' a else F a) = none
      rw [if_neg (fun z => e2 (k3 a z))]
      exact e1
    · by_cases z : b ∈ ts
      · have e : (if b ∈ ts then H' b else F b) = some o := e
        rwa [if_pos z] at e
      · have e : (if b ∈ ts then H' b else F b) = some o := e
        rw [if_neg z] at e
        exact k1 _ _ (u _ _ e)
  have k7 : Paired (fun (t : Addr) (q : V × V) => ∃ o, (fun b => if b ∈ ts then H' b else F b) t = some (.frz o (.tup [q.1, q.2])) ∧ Obj.dict o = none) ts (vs.zip ws) := by
    have gen : ∀ {ts' : List Addr} {qs : List (V × V)}, (∀ t ∈ ts', t ∈ ts) → Paired (fun (t : Addr) (q : V × V) => ∃ o, H' t = some (.frz o (.tup [q.1, q.2])) ∧ Obj.dict o = none) ts' qs → Paired (fun (t : Addr) (q : V × V) => ∃ o, (fun b => if b ∈ ts then H' b else F b) t = some (.frz o (.tup [q.1, q.2])) ∧ Obj.dict o = none) ts' qs := by
      intro ts' qs hs hp
      induction hp with
      | nil => exact .nil
      | cons h t ih => exact .cons (by obtain ⟨o, h, ho⟩ := h; refine ⟨o, ?_, ho⟩; show (if _ ∈ ts then _ else _) = _; rw [if_pos (hs _ List.mem_cons_self)]; exact h) (ih fun t ht => hs t (List.mem_cons_of_mem _ ht))
    exact gen (fun _ h => h) k6
  refine h _ _ _ up ⟨[p], ?_, by simp, fun a ha => ?_⟩
  · simp only [Own]
    exact ⟨p, _, [], rfl, k5, OwnL.of_fz (lz_isL up.ff hi hj k7), rfl⟩
  · have e : a = p := by simpa using ha
    subst e
    refine ⟨k2, ?_⟩
    show (if a ∈ ts then H' a else F a) = none
    rw [if_neg k4]
    exact nF _ k2
theorem s_lz (hc : X.calm = true) (hK : X.K = c.K) (ha : PA X [a, b] (tL c [.fz, .fz] fs)) (hg : Gl X "list") (hm : X.mg "list" = none) (hv : bootBuiltins "list" = some (.type "list")) (hgz : Gl X "zip") (hmz : X.mg "zip" = none)
    (hs : starEach [.Call (.Name "zip" zp) [a, b] [] zpos] X.env = (false, eval (.Call (.Name "zip" zp) [a, b] [] zpos) X.env) :: starEach [] X.env)
    (hs2 : starEach [a, b] X.env = (false, eval a X.env) :: starEach [b] X.env) (hpl : (backTo zpos (starEach [b] X.env)).any (·.1) = false) :
    PE X (.Call (.Name "list" p) [.Call (.Name "zip" zp) [a, b] [] zpos] [] pos) (tV c (.fr (.lst .fz)) (fLz fs)) := by
  refine PE.imp (ZH.pe_listZip hc ha hg hm hv hgz hmz hs hs2 hpl) fun σ H Q h => ?_
  obtain ⟨F, δ, E, h⟩ := h
  refine tL.goV E h fun ds vs F1 H1 u1 E1 w h1 => ?_
  obtain ⟨d1, d2, v1, v2, A, B, rfl, rfl, o1, o2⟩ := view2 w
  have i1 := o1.is
  have i2 := o2.is
  obtain ⟨d, e, q⟩ := h1.okT
  cases d1 with
  | lst ds =>
    cases d2 with
    | lst es =>
      cases e
      simp only [Is] at i1 i2
      obtain ⟨p, vs, rfl, hp, hi⟩ := i1
      obtain ⟨q', ws, rfl, hq, hj⟩ := i2
      exact ⟨p, q', vs, ws, rfl, .inl ⟨SqL.of (u1.fh _ _ hp), SqL.of (u1.fh _ _ hq)⟩, lz_fin u1.fh hi hj q⟩
    | _ => simp [lzD] at e
  | tup ds =>
    cases d2 with
    | tup es =>
      cases e
      simp only [Is] at i1 i2
      obtain ⟨p, vs, rfl, hp, hi⟩ := i1
      obtain ⟨q', ws, rfl, hq, hj⟩ := i2
      exact ⟨p, q', vs, ws, rfl, .inr ⟨(hp.mono u1.fh).sq, (hq.mono u1.fh).sq⟩, lz_fin u1.fh hi hj q⟩
    | _ => simp [lzD] at e
  | _ => simp [lzD] at e
end Ev

set_option maxHeartbeats 4000000
namespace Ev
open PySem PySem.Spec PySem.W PySem.Calls PyProof.Rows L2 NdefX OEX
variable [Wd]
/-- the facts of such an __init__: f its function, D its class, cc the cell of __class__, cda its code -/
structure IniK (P : Program) (K : PySem.W.Frag) (D f cc cda : Addr) (name qual : Str) (params : Arguments) (body : List Stmt) (scope : Scope) (fd : FuncData) : Prop where
  lk : ∃ oc od osl, K.lookup f = some ⟨oc, od, .func fd, osl⟩
  fdv : ∃ dV kV doc pm ct, fd = ksFn name qual params body scope dV kV doc pm none (.ref cda) ct cc
  cd : PySem.W.codeIn K (.ref cda) qual = true
  file : ∃ ccl cdd vs ccs file tf, K.lookup cda = some ⟨ccl, cdd, .fields vs, ccs⟩ ∧ vs[2]? = some (.str file tf) ∧ ((P.main.file : Str) == file) = true
  cell : ∃ cl cld csl, K.lookup cc = some ⟨cl, cld, .cell (some (.ref D)), csl⟩
  top : (P.main.scope.names.lookup ("super" : Str)).isSome = false
  sup : PySem.W.nsIn K mainGlobals "super" = some none
  opq : PySem.W.nsIn K cStatics "thirdparty.any" = some none
  cls : ∃ cd, PySem.W.clsIn K D = some cd
/-- what a class that is made by it must be -/
structure IniC (K : PySem.W.Frag) (D C : Addr) (flds : List Str) : Prop where
  ox : OexC K C
  sup : PySem.W.ks_superIn K C D "__init__" = some (some (.builtin "ValueError.__init__"))
  sub : PySem.W.mroIn K C (.ref D) = some true
  ve : PySem.W.subIn K (.ref C) (.type "ValueError") = some true
  fl : ∀ f ∈ flds, PySem.W.findIn K (.ref C) f = some none
abbrev iniF (name qual : Str) (params : Arguments) (body : List Stmt) (scope : Scope) (cc cda : Addr) : NF := ⟨name, qual, params, body, scope, [("__class__", cc)], cda⟩
end Ev

set_option maxHeartbeats 4000000
namespace Ev
open PySem PySem.Spec PySem.Calls PyProof.Rows L2 NdefX OEX
variable [Wd]
variable {X : Cx} {c : Cp} {F G H F' G' H' : Hp} {σ : L2.St} {δ : Env} {a b e tg : Expr} {es : List Expr} {pos p : Pos} {x : Str} {ta tb tc ty rt : Ty} {oa ob oc o : OT} {os : List OT} {fa fb fc : Env → Option R} {fs : Env → Option RL} {st : Stmt} {ss : List Stmt} {A A' : List Addr}
/-- an __init__ that stores its arguments under the names flds -/
def spX (K : PySem.W.Frag) (D : Addr) (flds : List Str) : Sp := fun vs H Q E => ∃ (a C : Addr) (ys : List V), vs = .ref a :: ys ∧ ys.length = flds.length ∧ IniC K D C flds ∧ H a = some (exo a C none) ∧
  ∀ dx, H dx = none → dx ≠ a → Q .non (upd (upd H dx (exd dx (flds.zip ys).reverse)) a (exo a C (some dx)))
/-- the class ci of errors can be made, by an __init__ of level k -/
structure XMk (P : Program) (w : World) (K : PySem.W.Frag) (mg : Str → Option Value) (base : Heap) (ci k : Nat) : Prop where
  ex : ∃ (D f : Addr) (fd : FuncData) (ps : List Str), FnOk P w K mg base (L2.CX P w) k f fd ps (spX K D (excT ci).fields) ∧ PySem.W.findIn K (.ref (He.ga K (excT ci).name)) "__init__" = some (some (.ref f)) ∧ PySem.W.typeIn K (.ref f) = some (.type "function") ∧ Binds K fd ps [] ∧ IniC K D (He.ga K (excT ci).name) (excT ci).fields
  g : mg (excT ci).name = some (.ref (He.ga K (excT ci).name))
  ne : ∃ f0 fs0, (excT ci).fields = f0 :: fs0
def sRaise (ci : Nat) (fs : EL) : So := fun δ => bndSL (fs δ) δ fun ds => some (.ex ⟨ci, ds⟩ δ)
end Ev

set_option maxHeartbeats 4000000
namespace Ev
open PySem PySem.Spec PySem.Calls PyProof.Rows L2 StX
variable [Wd]
variable {X : Cx} {c : Cp} {F G H F' G' H' : Hp} {σ : L2.St} {δ : Env} {a b e tg : Expr} {es : List Expr} {pos p : Pos} {x : Str} {ta tb tc ty rt : Ty} {oa ob oc o : OT} {os : List OT} {fa fb fc : Env → Option R} {fs : Env → Option RL} {st : Stmt} {ss : List Stmt} {A A' : List Addr}
def packD (n : Nat) (ds : List D) : List D := ds.take n ++ [.tup (ds.drop n)]
/-- what a def f(a, .., *v) of n parameters ahead promises -/
def spV (K : PySem.W.Frag) (n : Nat) (φ : Fn) : Sp := fun vs H Q E => ∃ F ds, Same F H ∧ IsL K F ds vs ∧ n ≤ ds.length ∧ ds.length ≤ sizeLine ∧ GF K F H (.vw .fz) Q E (φ (packD n ds))
section
variable {P : Program} {w : World} {K : PySem.W.Frag} {mg : Str → Option Value} {base : Heap} {xn qual : Str} {params : Arguments} {body : List Stmt} {scope : Scope} {kws : List (Str × V)} {f : Addr} {fd : FuncData}
end
def tMethR (C : Addr) (m : Str) (sp : Sp) (E : L2.St → XK) (ta : TE) (t : TA) : TE := fun σ H Q => ta σ H fun x H1 => ∃ a dx fs, x = .ref a ∧ H1 a = some (.ins C dx fs) ∧ fs.lookup m = none ∧ t σ H1 fun vs H2 => sp (x :: vs) H2 Q (E σ)
structure PCalV (P : Program) (w : World) (K : PySem.W.Frag) (mg : Str → Option Value) (base : Heap) (ci : Nat) (m : Str) (k n : Nat) (φ : Fn) : Prop where
  ex : ∃ f : Addr, FnR P w K mg base (L2.CX P w) k f (spV K n φ) ∧ Meth K (clsA K ci) m f
  nf : m ∉ (clsT ci).fields
def callV (n : Nat) (φ : Fn) (ds : List D) : Option R := if n ≤ ds.length ∧ ds.length ≤ sizeLine then φ (packD n ds) else none
def fPmV (ci n : Nat) (φ : Fn) (fa : EF) (fs : EL) : EF := fun δ => bnd (fa δ) fun d => if isIns ci d then bndL (fs δ) fun ds => callV n φ (d :: ds) else none
def fPmV0 (ci n : Nat) (φ : Fn) (fa : EF) : EF := fun δ => bnd (fa δ) fun d => if isIns ci d then callV n φ [d] else none
end Ev

set_option maxHeartbeats 4000000
namespace Ev
open PySem PySem.Spec PySem.Calls PyProof.Rows L2
variable [Wd]
variable {X : Cx} {c : Cp} {F G H F' G' H' : Hp} {σ : L2.St} {δ : Env} {a b e tg : Expr} {es : List Expr} {pos p : Pos} {x : Str} {ta tb tc ty rt : Ty} {oa ob oc o : OT} {os : List OT} {fa fb fc : Env → Option R} {fs : Env → Option RL} {st : Stmt} {ss : List Stmt} {A A' : List Addr}
/-- the context of an except suite: slot i holds the exception a -/
def Cp.hc (c : Cp) (i : Nat) (a : Addr) (F0 : Hp) : Cp := { c with Ks := c.Ks.set i (.pn .fz (.ref a)), F0 := F0, W := fun _ _ _ _ => False }
def xName (ci : Nat) : Str := (excT ci).name
/-- the end of an except suite; none may be raised in it -/
def hndO (i : Nat) : Option Out → Option Out
  | some (.nx δ) => some (.nx (δ.set i none))
  | some (.brk δ) => some (.brk (δ.set i none))
  | some (.ct δ) => some (.ct (δ.set i none))
  | some (.ret d δ) => some (.ret d (δ.set i none))
  | _ => none
def sTry1 (g : So) (tb : List (Nat × Bool)) (i : Nat) (h : Xd → So) : So := fun δ => match g δ with
  | some (.ex x δ1) => (match tb.lookup x.c with
    | some true => hndO i (h x (δ1.set i (some .xv)))
    | some false => some (.ex x δ1)
    | none => none)
  | r => r
end Ev

set_option maxHeartbeats 4000000
namespace PySem.W
open PySem PySem.Spec PySem.Calls PyProof.Rows L2
section
variable {prog : Program} {w : World} {A : Around} {E : Value → Shared → Prop} {s : Shared} {K : Frag} {x D : Addr} {ox : Obj} {od : Option Obj}
end
end PySem.W
namespace Ev
open PySem PySem.Spec PySem.Calls PyProof.Rows L2
variable [Wd]
variable {X : Cx} {c : Cp} {F G H F' G' H' : Hp} {σ : L2.St} {δ : Env} {a b e tg : Expr} {es : List Expr} {pos p : Pos} {x : Str} {ta tb tc ty rt : Ty} {oa ob oc o : OT} {os : List OT} {fa fb fc : Env → Option R} {fs : Env → Option RL} {st : Stmt} {ss : List Stmt} {A A' : List Addr} {ty : Ty} {vc : V}
/-- what is known of the own error class ci -/
structure XCl (K : PySem.W.Frag) (ci : Nat) : Prop where
  f : XfC K (He.ga K (excT ci).name)
  c : ExcC K (He.ga K (excT ci).name)
  n : ∀ f ∈ (excT ci).fields, PySem.W.findIn K (.ref (He.ga K (excT ci).name)) f = some none
def evX (i : Nat) (r : Option D) : Env → Option R := fun δ => match δ[i]? with
  | some (some .xv) => okO r
  | _ => none
theorem look_of_mem {f : Str} {v : V} : ∀ {l : List (Str × V)}, (f, v) ∈ l → (l.map (·.1)).Nodup → l.lookup f = some v
  | [], h, _ => by cases h
  | (g, w) :: l, h, n => by
    rw [List.map_cons, List.nodup_cons] at n
    rw [List.lookup_cons]
    rcases List.mem_cons.mp h with e | h2
    · cases e
      rw [beq_self_eq_true]
    · have : (f == g) = false := by
        rw [beq_eq_false_iff_ne]
        intro z
        subst z
        exact n.1 (List.mem_map.mpr ⟨(f, v), h2, rfl⟩)
      rw [this]
      exact look_of_mem h2 n.2
section
variable {i : Nat} {en f : Str} {xd : Xd} {ad : Addr} {oe : Obj} {d : Option Addr} {pn : List (Addr × Obj)} {F0 : Hp}
end
section
variable {i : Nat} {en f : Str} {xd : Xd} {ad : Addr} {oe : Obj} {d : Option Addr} {pn : List (Addr × Obj)} {F0 : Hp}
end
def fXf (i : Nat) (f : Str) (x : Xd) : Env → Option R := evX i ((fldIx f (excT x.c).fields).bind fun j => x.args[j]?)
def fXi (i : Nat) (tb : List (Nat × Bool)) (x : Xd) : Env → Option R := evX i ((tb.lookup x.c).map .bl)
end Ev

set_option maxHeartbeats 4000000
namespace Ev
open PySem PySem.Spec PySem.Calls PyProof.Rows L2
variable [Wd]
variable {X : Cx} {c : Cp} {F G H F' G' H' : Hp} {σ : L2.St} {δ : Env} {a b e tg : Expr} {es : List Expr} {pos p : Pos} {x : Str} {ta tb tc ty rt : Ty} {oa ob oc o : OT} {os : List OT} {fa fb fc : Env → Option R} {fs : Env → Option RL} {st : Stmt} {ss : List Stmt} {A A' : List Addr}
theorem EnvOk.dict {K : PySem.W.Frag} {Ks : List Kd} {F0 : Hp} (E : EnvOk K Ks F0 G F H σ δ) {i : Nat} {vs0 : List D} {ks : List Key} (hk : OwnK Ks i .dic) (hd : δ[i]? = some (some (.dic ks vs0))) :
    ∃ l kvs, σ[i]? = some (some (.ref l)) ∧ H l = some (.dK kvs) ∧ kvs.map (·.1) = ks ∧ IsL K F vs0 (kvs.map (·.2)) ∧
      ∀ kvs' vs', IsL K F vs' (kvs'.map (·.2)) → EnvOk K Ks F0 G F (upd H l (.dK kvs')) σ (δ.set i (some (.dic (kvs'.map (·.1)) vs'))) := by
  obtain ⟨v, A, eσ, ow, nd, hA, put⟩ := EnvOk.own E hk hd
  simp only [Own] at ow
  obtain ⟨l, kvs, rfl, hL, hks, hI, rfl⟩ := ow
  have fl : F l = none := (hA l (by simp)).1
  refine ⟨l, kvs, eσ, hL, hks, hI, fun kvs' vs' hI' => ?_⟩
  refine put (A' := [l]) ?_ (by simp) (Same.refl _) (fun b u q => ?_) (fun b _ q _ => q) (fun b hb => .inl hb) (fun b hb => ?_) fun b nb _ => upd_ne fun z => nb (by simp [z])
  · simp only [Own]
    exact ⟨l, kvs', rfl, upd_same, rfl, hI', rfl⟩
  · rw [upd_ne fun z => by rw [z, fl] at q; cases q]; exact E.fh b u q
  · have : b = l := by simpa using hb
    rw [this]; exact fl
def dicI (δ : Env) (i : Nat) : Option (List Key × List D) := match δ[i]? with
  | some (some (.dic ks vs)) => some (ks, vs)
  | _ => none
def sDput (i : Nat) (fk fv : EF) : So := fun δ => bndS (fv δ) δ fun v => (dicI δ i).bind fun q => bndS (fk δ) δ fun y => (keyD y).bind fun k => if q.1.length < sizeLine then some (.nx (δ.set i (some (.dic (putKs k q.1) (putDs k v q.1 q.2))))) else none
def fDget (i : Nat) (fk fz : EF) : EF := fun δ => match dicI δ i with
  | some q => bnd (fk δ) fun y => bnd (fz δ) fun z => okO ((keyD y).map fun k => (lookD k q.1 q.2).getD z)
  | none => none
abbrev iAdd : Int → Int → Int := fun i j => i + j
abbrev iSub : Int → Int → Int := fun i j => i - j
def sAug (f : Int → Int → Int) (i : Nat) (fe : EF) : So := fun δ => match δ[i]? with
  | some (some (.int m)) => bndS (fe δ) δ fun d => match d with
    | .int k => some (.nx (δ.set i (some (.int (f m k)))))
    | _ => none
  | _ => none
end Ev

set_option maxHeartbeats 4000000
namespace PySem
namespace ENT
open Sem (wp)
end ENT
end PySem
namespace Ev
open PySem PySem.Spec PySem.Calls PyProof.Rows L2
variable [Wd]
/-- the tuple at a at each turn, each item in a new pair -/
def IteT (K : PySem.W.Frag) (a : Addr) : It :=
  ⟨fun i H => ∃ (xs : List V) (x : V), SqT K H a xs ∧ xs[i]? = some x, fun i H v H' => ∃ T x, v = .ref T ∧ H T = none ∧ H' = upd H T (.tup [.int (i : Nat), x]) ∧ ∀ xs, SqT K H a xs → xs[i]? = some x, fun i H => ∃ xs : List V, SqT K H a xs ∧ xs.length ≤ i⟩
def iEnumT (K : PySem.W.Frag) (ta : TA) : TI := fun σ H R => ta σ H fun vs H1 => ∃ a xs, vs = [.ref a] ∧ SqT K H1 a xs ∧ R (IteT K a) H1
variable {X : Cx} {c : Cp} {F G H F' G' H' : Hp} {σ : L2.St} {δ : Env} {a b e tg : Expr} {es : List Expr} {pos p : Pos} {x : Str} {ta tb tc ty rt : Ty} {oa ob oc o : OT} {os : List OT} {fa fb fc : Env → Option R} {fs : Env → Option RL} {st : Stmt} {ss : List Stmt} {A A' : List Addr}
def numb : Nat → List D → List D
  | _, [] => []
  | k, d :: ds => .tup [.int (k : Int), d] :: numb (k + 1) ds
def enumD : List D → Option (List D)
  | [.tup ds] => some (numb 0 ds)
  | _ => none
def iEnumF (fs : EL) : EL := fun δ => match fs δ with
  | some (.ok l) => okL (enumD l)
  | r => r
end Ev

set_option maxHeartbeats 4000000
namespace Ev
open PySem PySem.Spec PySem.Calls PyProof.Rows L2
variable [Wd]
abbrev Cla := Value × (Addr → Value → Option Addr → TS)
/-- the ends of a suite that holds the exception in slot i -/
def endN (i : Nat) (D : Ends) : Ends := { nx := fun σ H => D.nx (σ.set i none) H, rt := D.rt, bk := fun σ H => D.bk (σ.set i none) H, ct := fun σ H => D.ct (σ.set i none) H }
def wN (K : PySem.W.Frag) (i : Nat) (Wout : WX) (D : Ends) : List Cla → WX
  | [] => Wout
  | (cv, ts) :: r => fun cls d σ H => ∃ b, PySem.W.exmOne K cls cv = some b ∧ (b = true → ∀ a, H a = none → ts a cls d (endN i D) (σ.set i (some (.ref a))) H) ∧ (b = false → wN K i Wout D r cls d σ H)
inductive HdsN (X : Cx) (i : Nat) (n : Str) : List ExceptHandler → List Cla → Prop
  | nil : HdsN X i n [] []
  | cons {xh : Str} {cv : Value} {ts : Addr → Value → Option Addr → TS} {b₀ : Stmt} {suite : List Stmt} {np pos' : Pos} {hds : List ExceptHandler} {l : List Cla} (hc : Names X xh cv)
      (hsu : ∀ (a : Addr) (oe : Obj) (cls : Value) (d : Option Addr) (pn : List (Addr × Obj)), Zc cls d oe → (∃ vs, oe.data = .fields vs) → PSs (X.suite a ((a, oe) :: pn)) (b₀ :: suite) (ts a cls d)) (r : HdsN X i n hds l) :
      HdsN X i n (.ExceptHandler (some (.Name xh np)) (some n) (b₀ :: suite) pos' :: hds) ((cv, ts) :: l)
variable {X : Cx} {c : Cp} {F G H F' G' H' : Hp} {σ : L2.St} {δ : Env} {a b e tg : Expr} {es : List Expr} {pos p : Pos} {x : Str} {ta tb tc ty rt : Ty} {oa ob oc o : OT} {os : List OT} {fa fb fc : Env → Option R} {fs : Env → Option RL} {st : Stmt} {ss : List Stmt} {A A' : List Addr}
/-- clauses by data: who is caught, what is done -/
abbrev Cls2 := List (Nat × Bool) × (Xd → So)
def pickC (i : Nat) (x : Xd) (δ : Env) : List Cls2 → Option Out
  | [] => some (.ex x δ)
  | (tb, h) :: r => match tb.lookup x.c with
    | some true => hndO i (h x (δ.set i (some .xv)))
    | some false => pickC i x δ r
    | none => none
def sTryN (g : So) (i : Nat) (cs : List Cls2) : So := fun δ => match g δ with
  | some (.ex x δ1) => pickC i x δ1 cs
  | r => r
/-- the suites' promises -/
def tsN (c : Cp) (rt : Ty) (i : Nat) (tb : List (Nat × Bool)) (h : Xd → So) : Addr → Value → Option Addr → TS := fun a cls d D σ H => ∃ x F0, cls = .ref (He.ga c.K (excT x.c).name) ∧ (x.c, true) ∈ tb ∧ (∀ H1, XRep c.K F0 H1 x (.ref (He.ga c.K (excT x.c).name)) d) ∧ tS (c.hc i a F0) rt (h x) D σ H
inductive HdsD (X : Cx) (c : Cp) (rt : Ty) (i : Nat) (n : Str) : List ExceptHandler → List Cla → List Cls2 → Prop
  | nil : HdsD X c rt i n [] [] []
  | cons {xh : Str} {cv : Value} {b₀ : Stmt} {suite : List Stmt} {np pos' : Pos} {hds : List ExceptHandler} {l : List Cla} {l2 : List Cls2} {tb : List (Nat × Bool)} {h : Xd → So} (hc : Names X xh cv) (htb : ∀ q ∈ tb, PySem.W.exmOne c.K (.ref (He.ga c.K (excT q.1).name)) cv = some q.2)
      (hsu : ∀ (x : Xd) (a : Addr) (oe : Obj) (d : Option Addr) (pn : List (Addr × Obj)) (F0 : Hp), (x.c, true) ∈ tb → Zc (.ref (He.ga c.K (excT x.c).name)) d oe → (∃ vs, oe.data = .fields vs) → (∀ H1, XRep c.K F0 H1 x (.ref (He.ga c.K (excT x.c).name)) d) → PSs (X.suite a ((a, oe) :: pn)) (b₀ :: suite) (tS (c.hc i a F0) rt (h x)))
      (r : HdsD X c rt i n hds l l2) : HdsD X c rt i n (.ExceptHandler (some (.Name xh np)) (some n) (b₀ :: suite) pos' :: hds) ((cv, tsN c rt i tb h) :: l) ((tb, h) :: l2)
theorem HdsD.toN {i : Nat} {n : Str} : ∀ {hds : List ExceptHandler} {l : List Cla} {l2 : List Cls2}, HdsD X c rt i n hds l l2 → HdsN X i n hds l
  | _, _, _, .nil => .nil
  | _, _, _, .cons hc htb hsu r => .cons hc (fun a oe cls d pn hz hd => ⟨fun pins s σ H D I q => by
    obtain ⟨x, F0, rfl, hm, xr, q⟩ := q
    exact (hsu x a oe d pn F0 hm hz hd xr).run pins s σ H D I q⟩) r.toN
def HdsE (X : Cx) (c : Cp) (rt : Ty) (i : Nat) (n : Str) (hds : List ExceptHandler) (l2 : List Cls2) : Prop := ∃ l, HdsD X c rt i n hds l l2
end Ev

set_option maxHeartbeats 4000000
namespace Ev
open PySem PySem.Spec PyProof.Rows L2
variable [Wd]
variable {X : Cx} {c : Cp} {K : PySem.W.Frag} {F G H F' G' H' : Hp}
def intsOf : List D → Option (List Int)
  | [] => some []
  | .int i :: l => (intsOf l).map (i :: ·)
  | _ :: _ => none
def sumD : List D → Option D
  | [.lst ds] => (intsOf ds).map fun ns => .int ns.sum
  | _ => none
def max2D : List D → Option D
  | [.int i, .int j] => some (.int (if j > i then j else i))
  | _ => none
def min2D : List D → Option D
  | [.int i, .int j] => some (.int (if j < i then j else i))
  | _ => none
def disT (c : Cp) (kvs : List (Str × Int)) : List (TE × TE) := kvs.map fun q => (tV c (.vw .fz) (fC (.str q.1)), tV c (.vw .fz) (fC (.int q.2)))
def disV (kvs : List (Str × Int)) : List (Key × V) := kvs.map fun q => (.inr q.1, .int q.2)
def upD : D → Option D
  | .str z => if z.length ≤ 1000 ∧ PyData.strOk (Txt.upper z) = true then some (.str (Txt.upper z)) else none
  | _ => none
def fUp (fa : EF) : EF := fun δ => bnd (fa δ) fun d => okO (upD d)
def sPar (i j : Nat) (fs : EL) : So := fun δ => bndSL (fs δ) δ fun ds => match ds with
  | [d1, d2] => some (.nx ((δ.set i (some d1)).set j (some d2)))
  | _ => none
end Ev

set_option maxHeartbeats 4000000
namespace Ev
open PySem PySem.Spec PySem.Calls PyProof.Rows L2
variable [Wd]
variable {X : Cx} {c : Cp} {F G H F' G' H' : Hp} {σ : L2.St} {δ : Env} {a b e tg : Expr} {es : List Expr} {pos p : Pos} {x : Str} {ta tb tc ty rt : Ty} {oa ob oc o : OT} {os : List OT} {fa fb fc : Env → Option R} {fs : Env → Option RL} {st : Stmt} {ss : List Stmt} {A A' : List Addr}
structure XoOk (K : PySem.W.Frag) (mg : Str → Option Value) (ci : Nat) : Prop where
  q : PySem.W.excIn K (He.ga K (excT ci).name) [.type "ValueError", .type "Exception", .type "BaseException", .type "object"] "ValueError.__new__" = true
  k : PySem.W.keepIn K (.ref (He.ga K (excT ci).name)) = true
  b : PySem.W.subIn K (.ref (He.ga K (excT ci).name)) (.type "BaseException") = some true
  t : PySem.W.typeIn K (.ref (He.ga K (excT ci).name)) = some (.type "type")
  g : mg (excT ci).name = some (.ref (He.ga K (excT ci).name))
def sRaise0 (ci : Nat) : So := fun δ => some (.ex ⟨ci, []⟩ δ)
structure SelOk (K : PySem.W.Frag) (C : Addr) : Prop where
  ex : ∃ cd rest, PySem.W.clsIn K C = some cd ∧ cd.mro = .ref C :: rest
section
variable {CX : CXT} {k : Nat} {f C : Addr} {fd : FuncData} {ps : List Str} {sp : Sp} {E : L2.St → XK} {ta tb : TE}
end
def fBinO (ci : Nat) (φ : Fn) (fa fb : EF) : EF := fun δ => bnd (fa δ) fun d => if isIns ci d then bnd (fb δ) fun y => if isIns ci y then φ [d, y] else none else none
end Ev

set_option maxHeartbeats 4000000
namespace Ev
open PySem PySem.Spec PySem.Calls PyProof.Rows L2 NdefX OEX
variable [Wd]
variable {X : Cx} {c : Cp} {F G H F' G' H' : Hp} {σ : L2.St} {δ : Env} {a b e tg : Expr} {es : List Expr} {pos p : Pos} {x : Str} {ta tb tc ty rt : Ty} {oa ob oc o : OT} {os : List OT} {fa fb fc : Env → Option R} {fs : Env → Option RL} {st : Stmt} {ss : List Stmt} {A A' : List Addr}
def wV (K : PySem.W.Frag) (i : Nat) (Wout : WX) (D : Ends) (z : Cla) : List Cla → WX
  | [] => fun cls d σ H => ∃ b, PySem.W.exmOne K cls z.1 = some b ∧ (b = true → ∀ a, H a = none → z.2 a cls d D σ H) ∧ (b = false → Wout cls d σ H)
  | (cv, ts) :: r => fun cls d σ H => ∃ b, PySem.W.exmOne K cls cv = some b ∧ (b = true → ∀ a, H a = none → ts a cls d (endN i D) (σ.set i (some (.ref a))) H) ∧ (b = false → wV K i Wout D z r cls d σ H)
inductive HdsV (X : Cx) (i : Nat) (n : Str) (z : Cla) : List ExceptHandler → List Cla → Prop
  | last {xh : Str} {b₀ : Stmt} {suite : List Stmt} {np pos' : Pos} (hc : Names X xh z.1)
      (hsu : ∀ (a : Addr) (oe : Obj) (cls : Value) (d : Option Addr) (pn : List (Addr × Obj)), Zc cls d oe → (∃ vs, oe.data = .fields vs) → PSs (X.suite a ((a, oe) :: pn)) (b₀ :: suite) (z.2 a cls d)) :
      HdsV X i n z [.ExceptHandler (some (.Name xh np)) none (b₀ :: suite) pos'] []
  | cons {xh : Str} {cv : Value} {ts : Addr → Value → Option Addr → TS} {b₀ : Stmt} {suite : List Stmt} {np pos' : Pos} {hds : List ExceptHandler} {l : List Cla} (hc : Names X xh cv)
      (hsu : ∀ (a : Addr) (oe : Obj) (cls : Value) (d : Option Addr) (pn : List (Addr × Obj)), Zc cls d oe → (∃ vs, oe.data = .fields vs) → PSs (X.suite a ((a, oe) :: pn)) (b₀ :: suite) (ts a cls d)) (r : HdsV X i n z hds l) :
      HdsV X i n z (.ExceptHandler (some (.Name xh np)) (some n) (b₀ :: suite) pos' :: hds) ((cv, ts) :: l)
/-- the end of a suite that names nothing -/
def hX : Option Out → Option Out
  | some (.ex _ _) => none
  | r => r
def pickV (i : Nat) (x : Xd) (tb : List (Nat × Bool)) (h : So) (δ : Env) : List Cls2 → Option Out
  | [] => match tb.lookup x.c with
    | some true => hX (h δ)
    | some false => some (.ex x δ)
    | none => none
  | (tc, g) :: r => match tc.lookup x.c with
    | some true => hndO i (g x (δ.set i (some .xv)))
    | some false => pickV i x tb h δ r
    | none => none
def sTryV (g : So) (i : Nat) (cs : List Cls2) (tb : List (Nat × Bool)) (h : So) : So := fun δ => match g δ with
  | some (.ex x δ1) => pickV i x tb h δ1 cs
  | r => r
def Cp.qt (c : Cp) : Cp := { c with W := fun _ _ _ _ => False }
def tsV (c : Cp) (rt : Ty) (h : So) : Addr → Value → Option Addr → TS := fun _ _ _ => tS c.qt rt h
inductive HdsW (X : Cx) (c : Cp) (rt : Ty) (i : Nat) (n : Str) (tb : List (Nat × Bool)) (cz : Value) (h : So) : List ExceptHandler → List Cla → List Cls2 → Prop
  | last {xh : Str} {b₀ : Stmt} {suite : List Stmt} {np pos' : Pos} (hc : Names X xh cz) (htb : ∀ q ∈ tb, PySem.W.exmOne c.K (.ref (He.ga c.K (excT q.1).name)) cz = some q.2)
      (hsu : ∀ (a : Addr) (oe : Obj) (pn : List (Addr × Obj)), PSs (X.suite a ((a, oe) :: pn)) (b₀ :: suite) (tS c.qt rt h)) : HdsW X c rt i n tb cz h [.ExceptHandler (some (.Name xh np)) none (b₀ :: suite) pos'] [] []
  | cons {xh : Str} {cv : Value} {b₀ : Stmt} {suite : List Stmt} {np pos' : Pos} {hds : List ExceptHandler} {l : List Cla} {l2 : List Cls2} {tc : List (Nat × Bool)} {g : Xd → So} (hc : Names X xh cv) (htb : ∀ q ∈ tc, PySem.W.exmOne c.K (.ref (He.ga c.K (excT q.1).name)) cv = some q.2)
      (hsu : ∀ (x : Xd) (a : Addr) (oe : Obj) (d : Option Addr) (pn : List (Addr × Obj)) (F0 : Hp), (x.c, true) ∈ tc → Zc (.ref (He.ga c.K (excT x.c).name)) d oe → (∃ vs, oe.data = .fields vs) → (∀ H1, XRep c.K F0 H1 x (.ref (He.ga c.K (excT x.c).name)) d) → PSs (X.suite a ((a, oe) :: pn)) (b₀ :: suite) (tS (c.hc i a F0) rt (g x)))
      (r : HdsW X c rt i n tb cz h hds l l2) : HdsW X c rt i n tb cz h (.ExceptHandler (some (.Name xh np)) (some n) (b₀ :: suite) pos' :: hds) ((cv, tsN c rt i tc g) :: l) ((tc, g) :: l2)
def HdsF (X : Cx) (c : Cp) (rt : Ty) (i : Nat) (n : Str) (tb : List (Nat × Bool)) (h : So) (hds : List ExceptHandler) (l2 : List Cls2) : Prop := ∃ cz l, HdsW X c rt i n tb cz h hds l l2
end Ev

set_option maxHeartbeats 4000000
namespace Ev
open PySem PySem.Spec PyProof.Rows L2
variable [Wd]
variable {X : Cx} {c : Cp} {K : PySem.W.Frag} {F G H F' G' H' : Hp} {e : Expr} {pos : Pos} {rt : Ty} {fc : EF}
/-- at most n turns -/
def sWh (n : Nat) (fc : EF) (g : So) : So := whGo fc g n
theorem st_while' {body : List Stmt} {g : So} {n : Nat} (hp : PassesOwn (model X.prog X.w) X.A X.env X.xe) (hc : PT X e (tT c fc)) (hb : PSs X body (tS c rt g)) : PS X (.While e body [] pos) (tS c rt (sWh n fc g)) := st_while hp hc hb
def minOf : Int → List Int → Int
  | a, [] => a
  | a, b :: l => minOf (if b < a then b else a) l
def minLD : List D → Option D
  | [.lst ds] => (intsOf ds).bind fun ns => match ns with
    | [] => none
    | a :: l => some (.int (minOf a l))
  | _ => none
end Ev

set_option maxHeartbeats 4000000
namespace Ev
open PySem PySem.Spec PySem.Calls PyProof.Rows L2
variable [Wd]
variable {X : Cx} {c : Cp} {F G H F' G' H' : Hp} {σ : L2.St} {δ : Env} {a b e tg : Expr} {es : List Expr} {pos p : Pos} {x : Str} {ta tb tc ty rt : Ty} {oa ob oc o : OT} {os : List OT} {fa fb fc : Env → Option R} {fs : Env → Option RL} {st : Stmt} {ss : List Stmt} {A A' : List Addr}
structure PrO (P : Program) (w : World) (K : PySem.W.Frag) (mg : Str → Option Value) (base : Heap) (ci : Nat) (m : Str) (k : Nat) (so : OT) (ret : Ty) (φ : Fn) : Prop where
  ex : ∃ (p0 f : Addr) (fd : FuncData) (ps : List Str), FnOk P w K mg base (L2.CX P w) k f fd ps (spE K ⟨[so], ret⟩ φ) ∧ PropOf K (clsA K ci) m p0 f ∧ Binds K fd ps []
section
variable {CX : CXT} {k : Nat} {f C : Addr} {fd : FuncData} {ps : List Str} {sp : Sp} {E : L2.St → XK} {t : TA}
def tMakeS (C : Addr) (sp : Sp) (E : L2.St → XK) (t : TA) : TE := fun σ H Q => t σ H fun vs H1 => ∀ x dx, H1 x = none → H1 dx = none → dx ≠ x →
  sp (.ref x :: vs) (upd (upd H1 dx (.own x)) x (.ins C dx [])) (fun v H2 => v = .non ∧ Q (.ref x) H2) (E σ)
end
def mkX (ci : Nat) (φ : FnI) (ds : List D) : Option R := match φ (.ins ci []) ds with
  | some (.ok .non s) => some (.ok s)
  | some (.ex x _) => some (.ex x)
  | _ => none
def fMk (ci : Nat) (φ : FnI) (fs : EL) : EF := fun δ => bndL (fs δ) (mkX ci φ)
def sFpopT (i ci j : Nat) (t : Tg) : So := fun δ => (insAt δ i ci).bind fun ds => match ds[j]? with
  | some (.lst xs) => (match xs.getLast? with
    | some d => (bindT t d (δ.set i (some (.ins ci (ds.set j (.lst xs.dropLast)))))).map .nx
    | none => none)
  | _ => none
end Ev

set_option maxHeartbeats 4000000
namespace Ev
open PySem PySem.Spec PySem.Calls PyProof.Rows L2
variable [Wd]
variable {X : Cx} {c : Cp} {F G H F' G' H' : Hp} {σ : L2.St} {δ : Env} {a b e tg : Expr} {es : List Expr} {pos p : Pos} {x : Str} {ta tb tc ty rt : Ty} {oa ob oc o : OT} {os : List OT} {fa fb fc : Env → Option R} {fs : Env → Option RL} {st : Stmt} {ss : List Stmt} {A A' : List Addr}
/-- the empty tuple of the text -/
structure Tup0 (K : PySem.W.Frag) (a : Addr) : Prop where
  ex : ∃ (o : Obj) (n : Nat), K.lookup a = some o ∧ o.cls = .type "tuple" ∧ o.data = .seq #[] n
def spD (K : PySem.W.Frag) (sg : Sig) (v0 : V) (φ : Fn) : Sp := fun vs H Q E => ∃ vs0, vs = vs0 ++ [v0] ∧ spE K sg φ vs0 H Q E
def defFD (rt : Ty) (n : Nat) (g : So) : Fn := fun ds => outR rt (g (startE n (ds ++ [.xv])))
section
variable {P : Program} {w : World} {K : PySem.W.Frag} {mg : Str → Option Value} {base : Heap} {xn qual : Str} {params : Arguments} {body : List Stmt} {scope : Scope} {dvs : List V} {kws : List (Str × V)} {f : Addr} {fd : FuncData}
theorem ViewL.snoc {K : PySem.W.Frag} {v : V} {d : D} (h0 : Is K F d v) : ∀ {os : List OT} {ds : List D} {vs : List V}, ViewL K F H os ds vs → ViewL K F H (os ++ [.fz]) (ds ++ [d]) (vs ++ [v])
  | [], [], _, h => by
    simp only [ViewL] at h
    subst h
    exact ⟨v, [], rfl, ⟨[], Own.of_is h0⟩, by simp only [ViewL]⟩
  | o :: os, d1 :: ds, _, h => by
    simp only [ViewL] at h
    obtain ⟨v1, r, rfl, h1, h2⟩ := h
    exact ⟨v1, _, rfl, h1, ViewL.snoc h0 h2⟩
  | [], _ :: _, _, h => by simp [ViewL] at h
  | _ :: _, [], _, h => by simp [ViewL] at h
end
structure CalD (P : Program) (w : World) (K : PySem.W.Frag) (mg : Str → Option Value) (base : Heap) (x : Str) (k : Nat) (sg : Sig) (a0 : Addr) (φ : Fn) : Prop where
  ex : ∃ (f : Addr) (fd : FuncData) (ps : List Str), FnOk P w K mg base (L2.CX P w) k f fd ps (spD K sg (.ref a0) φ) ∧ mg x = some (.ref f) ∧ PySem.W.keepIn K (.ref f) = true ∧ ∃ ds, Vals [V.ref a0] ds ∧ Binds K fd ps ds
/-- d in x, x the empty tuple of the text -/
def fInP (i : Nat) (fa : EF) : EF := fun δ => bnd (fa δ) fun d => match δ[i]? with
  | some (some _) => if okD 59 d then some (.ok (.bl false)) else none
  | _ => none
/-- (a, *b) -/
def fTupF (fs : EL) : EF := fun δ => bndL (fs δ) fun ds => if ds.length ≤ 1000 then some (.ok (.tup ds)) else none
theorem s_tupF {k : Nat} (he : PA X es (tF c fs)) : PE X (.Tuple es k pos) (tV c (.vw .fz) (fTupF fs)) := by
  refine PE.imp (pe_tupX he) fun σ H Q h => ?_
  obtain ⟨F, δ, E, h⟩ := h
  refine ⟨F, δ, E, ?_⟩
  change Gv c _ F H σ Q (bndL (fs δ) fun ds => if ds.length ≤ 1000 then some (.ok (.tup ds)) else none) at h
  cases e2 : fs δ with
  | none => rw [e2] at h; exact h
  | some r =>
    rw [e2] at h
    cases r with
    | ex x => exact h
    | ok ds =>
      have h : Gv c _ F H σ Q (if ds.length ≤ 1000 then some (.ok (.tup ds)) else none) := h
      by_cases g : ds.length ≤ 1000
      · rw [if_pos g] at h
        intro vs F1 H1 u w
        refine ⟨by rw [w.length]; exact Nat.le_trans g (by decide), fun l ob hl hob => h _ _ _ (u.trans (Up.newF u.fh hl)) ⟨[], Own.of_is ?_⟩⟩
        simp only [Is]
        exact ⟨l, vs, rfl, .inl ⟨ob, upd_same, hob⟩, w.mono (Up.newF (o := .frz ob (.tup vs)) u.fh hl).ff⟩
      · rw [if_neg g] at h; exact h.elim
end Ev

set_option maxHeartbeats 4000000
namespace Ev
open PySem PySem.Spec PySem.Calls PyProof.Rows L2
variable [Wd]
variable {X : Cx} {c : Cp} {F G H F' G' H' : Hp} {σ : L2.St} {δ : Env} {a b e tg : Expr} {es : List Expr} {pos p : Pos} {x : Str} {ta tb tc ty rt : Ty} {oa ob oc o o' : OT} {os : List OT} {fa fb fc : Env → Option R} {fs : Env → Option RL} {st : Stmt} {ss : List Stmt} {A A' : List Addr}
/-- a name that owns, roots among them -/
def OwnR (Ks : List Kd) (i : Nat) (o : OT) : Prop := Ks[i]? = some (.ow o) ∨ (∃ v, Ks[i]? = some (.pn o v)) ∨ Ks[i]? = some (.ar o) ∨ ∃ v, Ks[i]? = some (.pr o v)
theorem OwnR.notAl {Ks : List Kd} {i : Nat} (h : OwnR Ks i o) : ∀ l o2, Ks[i]? ≠ some (.al l o2) := fun l o2 q => by
  rcases h with h | ⟨v, h⟩ | h | ⟨v, h⟩ <;> (rw [h] at q; cases q)
theorem OwnR.root {Ks : List Kd} {i : Nat} (h : OwnR Ks i o) (r : RootK Ks i o') : o' = o := by
  rcases h with h | ⟨v, h⟩ | h | ⟨v, h⟩ <;> rcases r with r | ⟨w, r⟩ <;> (rw [h] at r; cases r) <;> rfl
/-- what a name owns, and its change; what leads into it is looked after by the caller -/
theorem EnvOk.ownR {K : PySem.W.Frag} {Ks : List Kd} {F0 : Hp} (E : EnvOk K Ks F0 G F H σ δ) {i : Nat} {o : OT} {d : D} (hk : OwnR Ks i o) (hd : δ[i]? = some (some d)) :
    ∃ (v : V) (As : Nat → List Addr), σ[i]? = some (some v) ∧ Own K F H o d v (As i) ∧ (As i).Nodup ∧ (∀ a ∈ As i, F a = none ∧ G a = none) ∧
      (∀ j kd e, Ks[j]? = some kd → δ[j]? = some (some e) → ∃ w, σ[j]? = some (some w) ∧ SlotOk K F G H kd e w (As j)) ∧ (∀ j, (As j).Nodup) ∧ (∀ j a, j ≠ i → a ∈ As j → a ∉ As i ∧ H a ≠ none) ∧
      ∀ {F' H' : Hp} {d' : D} {A' : List Addr}, Own K F' H' o d' v A' → A'.Nodup → Same F F' → Same F' H' → (∀ a, a ∉ As i → F a = none → H a ≠ none → F' a = none) → (∀ a ∈ A', a ∈ As i ∨ H a = none) →
      (∀ a ∈ A', F' a = none) → (∀ a, a ∉ As i → H a ≠ none → H' a = H a) → AlOk Ks H' σ (δ.set i (some d')) → EnvOk K Ks F0 G F' H' σ (δ.set i (some d')) := by
  obtain ⟨As, h1, h2, h3, h4⟩ := EnvOk.sl E
  obtain ⟨k0, hk0, v, hv, s0, s, mk⟩ : ∃ k0, Ks[i]? = some k0 ∧ ∃ v, σ[i]? = some (some v) ∧ SlotOk K F G H k0 d v (As i) ∧ Own K F H o d v (As i) ∧ ∀ {F' H' : Hp} {d' : D} {A' : List Addr}, Own K F' H' o d' v A' → SlotOk K F' G H' k0 d' v A' := by
    rcases hk with hk | ⟨v0, hk⟩ | hk | ⟨v0, hk⟩
    · obtain ⟨v, hv, s⟩ := h1 i _ d hk hd
      exact ⟨_, hk, v, hv, s, s, fun h => h⟩
    · obtain ⟨v, hv, s⟩ := h1 i _ d hk hd
      exact ⟨_, hk, v, hv, s, s.2, fun h => ⟨s.1, h⟩⟩
    · obtain ⟨v, hv, s⟩ := h1 i _ d hk hd
      exact ⟨_, hk, v, hv, s, s, fun h => h⟩
    · obtain ⟨v, hv, s⟩ := h1 i _ d hk hd
      exact ⟨_, hk, v, hv, s, s.2, fun h => ⟨s.1, h⟩⟩
  have hk := hk0
  have hi : i < Ks.length := (List.getElem?_eq_some_iff.mp hk).1
  refine ⟨v, As, hv, s, h2 i, fun a ha => ⟨(h4 i a ha).1, (h4 i a ha).2.1⟩, h1, h2, fun j a ne ha => ⟨fun hb => ne (h3 j i a ha hb), (h4 j a ha).2.2⟩, fun {F' H' d' A'} o1 o2 ff fh fr inA nf keep alk => ?_⟩
  have keepG : ∀ a, G a ≠ none → H' a = G a := fun a g => by
    rw [keep a (fun ha => g (h4 i a ha).2.1) (Same.some E.gh g)]; exact Same.eq E.gh g
  refine ⟨E.ls, by rw [List.length_set]; exact E.ld, fun a u g => ?_, E.f0.trans ff, fh, fun a e g => fr a (fun ha => g (h4 i a ha).2.1) (E.fr a e g) (Same.some E.gh g), alk, fun j => if j = i then A' else As j, fun j k e e1 e2 => ?_, fun j => ?_, fun j l a ha hb => ?_, fun j a ha => ?_⟩
  · rw [keepG a (by rw [g]; simp)]; exact g
  · rcases getElem?_set_or e2 with ⟨rfl, e3⟩ | ⟨ne, e3⟩
    · cases e3
      rw [hk] at e1; cases e1
      refine ⟨v, hv, ?_⟩
      have := mk o1
      show SlotOk K F' G H' k0 d' v (if j = j then A' else As j)
      rw [if_pos rfl]; exact this
    · obtain ⟨w, e4, s⟩ := h1 j k e e1 e3
      refine ⟨w, e4, ?_⟩
      have fz : ∀ {o : OT}, Own K F H o e w (As j) → Own K F' H' o e w (if j = i then A' else As j) := fun {o} s => by
        rw [if_neg ne]
        exact Own.frame ff s fun a ha => keep a (fun hb => ne (h3 j i a ha hb)) (h4 j a ha).2.2
      cases k with
      | ve o =>
        obtain ⟨B, s⟩ := s
        exact ⟨B, s.frame ff fun _ _ => rfl⟩
      | rd o v0 =>
        obtain ⟨er, B, s⟩ := s
        exact ⟨er, B, s.frame ff fun _ _ => rfl⟩
      | ow o => exact fz s
      | pn o v0 => exact ⟨s.1, fz s.2⟩
      | ar o => exact fz s
      | pr o v0 => exact ⟨s.1, fz s.2⟩
      | al i o => trivial
  · show (if j = i then A' else As j).Nodup
    split
    · exact o2
    · exact h2 j
  · have key : ∀ l a, l ≠ i → a ∈ As l → a ∈ A' → False := fun l a ne ha hb => by
      rcases inA a hb with z | z
      · exact ne (h3 l i a ha z)
      · exact (h4 l a ha).2.2 z
    have ha' : a ∈ (if j = i then A' else As j) := ha
    have hb' : a ∈ (if l = i then A' else As l) := hb
    by_cases e1 : j = i <;> by_cases e2 : l = i
    · rw [e1, e2]
    · rw [if_pos e1] at ha'; rw [if_neg e2] at hb'; exact (key l a e2 hb' ha').elim
    · rw [if_neg e1] at ha'; rw [if_pos e2] at hb'; exact (key j a e1 ha' hb').elim
    · rw [if_neg e1] at ha'; rw [if_neg e2] at hb'; exact h3 j l a ha' hb'
  · have ha' : a ∈ (if j = i then A' else As j) := ha
    by_cases e1 : j = i
    · rw [if_pos e1] at ha'
      refine ⟨nf a ha', ?_, o1.there a ha'⟩
      rcases inA a ha' with z | z
      · exact (h4 i a z).2.1
      · cases q : G a with
        | none => rfl
        | some u => exact absurd (E.gh a u q) (by rw [z]; simp)
    · rw [if_neg e1] at ha'
      obtain ⟨x1, x2, x3⟩ := h4 j a ha'
      refine ⟨fr a (fun hb => e1 (h3 j i a ha' hb)) x1 x3, x2, ?_⟩
      rw [keep a (fun hb => e1 (h3 j i a ha' hb)) x3]; exact x3
theorem At.split : ∀ {p q : List Nat} {v w u : V}, At H p v w → At H (p ++ q) v u → At H q w u
  | [], _, _, _, _, h, h' => by have h : _ = _ := h; subst h; exact h'
  | k :: p, q, v, w, u, ⟨a, o, vs, y, e, h1, h2, h3, h4⟩, ⟨a', o', vs', y', e', h1', h2', h3', h4'⟩ => by
    rw [e] at e'; cases e'
    rw [h1] at h1'; cases h1'
    rw [h2] at h2'; cases h2'
    rw [h3] at h3'; cases h3'
    exact At.split h4 h4'
/-- what stands at a place, and its change in place -/
theorem EnvOk.plc {K : PySem.W.Frag} {Ks : List Kd} {F0 : Hp} (E : EnvOk K Ks F0 G F H σ δ) {i : Nat} {pth : List Nat} {o o' : OT} {d d' : D} (hk : OwnR Ks i o) (hd : δ[i]? = some (some d)) (ht : otP o pth = some o') (hg : getP pth d = some d') :
    ∃ r w B, σ[i]? = some (some r) ∧ At H pth r w ∧ Own K F H o' d' w B ∧ B.Nodup ∧ (∀ b ∈ B, F b = none ∧ G b = none) ∧
      (∀ (k : Nat) (kd : Kd) (d1 : D), k ≠ i → Ks[k]? = some kd → kd.isAl = false → δ[k]? = some (some d1) → ∃ w1 A1, σ[k]? = some (some w1) ∧ Own K F (hid H B) kd.ot d1 w1 A1) ∧
      ∀ {F' H' : Hp} {d'' : D} {B' : List Addr}, Same F F' → Same F' H' → (∀ b, b ∉ B → F b = none → H b ≠ none → F' b = none) → (∀ b, b ∉ B → H b ≠ none → H' b = H b) → Own K F' H' o' d'' w B' → B'.Nodup → (∀ b ∈ B', b ∈ B ∨ H b = none) → (∀ b ∈ B', F' b = none) →
      (∀ (j : Nat) (o2 : OT) (ns : List Int) (q : List Nat) (v : V), Ks[j]? = some (.al i o2) → δ[j]? = some (some (.lck ns)) → pathD ns = pth ++ q → otP o (pth ++ q) = some o2 → At H q w v → At H' q w v) →
      EnvOk K Ks F0 G F' H' σ (δ.set i (some (setP pth d'' d))) := by
  obtain ⟨r, As, hr, ow, nd, hA, h1, h2, dj, put⟩ := EnvOk.ownR E hk hd
  obtain ⟨w, B, at1, ow2, nB, sub, put2⟩ := Own.sub pth ow nd ht hg
  refine ⟨r, w, B, hr, at1, ow2, nB, fun b hb => hA b (sub b hb), fun k kd d1 nk e1 e2 e3 => ?_, fun {F' H' d'' B'} ff fh fr keep o3 nB' inB nf al => ?_⟩
  · obtain ⟨w1, e4, s⟩ := h1 k kd d1 e1 e3
    have hh : ∀ b, b ∉ B → (hid H B) b = H b := fun b nb => by unfold hid; rw [if_neg nb]
    have gg : ∀ {o2 : OT} {B1 : List Addr}, Own K F G o2 d1 w1 B1 → Own K F (hid H B) o2 d1 w1 B1 := fun {o2 B1} s => s.frame (Same.refl _) fun b hb => by
      have gb := s.there b hb
      rw [hh b fun z => gb (hA b (sub b z)).2]
      exact Same.eq E.gh gb
    have ff : ∀ {o2 : OT}, Own K F H o2 d1 w1 (As k) → Own K F (hid H B) o2 d1 w1 (As k) := fun {o2} s => s.frame (Same.refl _) fun b hb => hh b fun z => (dj k b nk hb).1 (sub b z)
    cases kd with
    | ve o2 =>
      obtain ⟨B1, s⟩ := s
      exact ⟨w1, B1, e4, gg s⟩
    | rd o2 v0 =>
      obtain ⟨_, B1, s⟩ := s
      exact ⟨w1, B1, e4, gg s⟩
    | ow o2 => exact ⟨w1, As k, e4, ff s⟩
    | pn o2 v0 => exact ⟨w1, As k, e4, ff s.2⟩
    | ar o2 => exact ⟨w1, As k, e4, ff s⟩
    | pr o2 v0 => exact ⟨w1, As k, e4, ff s.2⟩
    | al l o2 => cases e2
  obtain ⟨A', ow4, nA', iA, al1, al2⟩ := put2 ff (fun b hb nb => keep b nb (ow.there b hb)) o3 nB' fun b hb => (inB b hb).imp id fun z q => ow.there b q z
  refine put ow4 nA' ff fh (fun b nb => fr b fun z => nb (sub b z)) (fun b hb => ?_) (fun b hb => ?_) (fun b nb => keep b fun z => nb (sub b z)) ?_
  · rcases iA b hb with z | z
    · exact .inl z.1
    · exact (inB b z).imp (sub b) id
  · rcases iA b hb with z | z
    · exact fr b z.2 (hA b z.1).1 (ow.there b z.1)
    · exact nf b z
  · intro j l o2 ns e1 e2
    have nj : j ≠ i := fun q => hk.notAl l o2 (q ▸ e1)
    rw [List.getElem?_set_ne (Ne.symm nj)] at e2
    obtain ⟨o1, x1, x2, z⟩ := E.al j l o2 ns e1 e2
    refine ⟨o1, x1, x2, fun d1 e3 => ?_⟩
    by_cases nl : l = i
    · subst nl
      obtain rfl := hk.root x1
      obtain ⟨r', v, y1, y2, y3⟩ := z d hd
      rw [hr] at y1; cases y1
      refine ⟨r, v, hr, y2, ?_⟩
      by_cases pre : pth <+: pathD ns
      · obtain ⟨q, eq⟩ := pre
        rw [← eq] at y3 ⊢
        rw [← eq] at x2
        exact al2 q v (al j o2 ns q v e1 e2 eq.symm x2 (At.split at1 y3))
      · exact al1 _ v ⟨o2, x2⟩ pre y3
    · rw [List.getElem?_set_ne (Ne.symm nl)] at e3
      obtain ⟨r', v, y1, y2, y3⟩ := z d1 e3
      refine ⟨r', v, y1, y2, ?_⟩
      have fr2 : ∀ b ∈ As l, H' b = H b := fun b hb => by
        obtain ⟨z1, z2⟩ := dj l b nl hb
        exact keep b (fun q => z1 (sub b q)) z2
      rcases x1 with q | ⟨v0, q⟩
      · obtain ⟨v', e4, s⟩ := h1 l _ d1 q e3
        rw [y1] at e4; cases e4
        exact At.frame (show Own K F H o1 d1 r' (As l) from s) (h2 l) ⟨o2, x2⟩ fr2 y3
      · obtain ⟨v', e4, s⟩ := h1 l _ d1 q e3
        rw [y1] at e4; cases e4
        exact At.frame (show Own K F H o1 d1 r' (As l) from s.2) (h2 l) ⟨o2, x2⟩ fr2 y3
abbrev PF := Env → Option (List Nat)
def tPl (c : Cp) (i : Nat) (pf : PF) : TE := fun σ H Q => ∃ F δ p, c.E F H σ δ ∧ pf δ = some p ∧ ∀ r w F' H', Up F H F' H' → σ[i]? = some (some r) → At H' p r w → Q w H'
/-- e leads to a place in slot i's thing (of type o), there stands a thing of type o' -/
structure Pl (X : Cx) (c : Cp) (e : Expr) (i : Nat) (o o' : OT) (pf : PF) : Prop where
  pe : PE X e (tPl c i pf)
  ty : ∀ {F H : Hp} {σ : L2.St} {δ : Env} {p : List Nat}, c.E F H σ δ → pf δ = some p → otP o p = some o'
  rk : OwnR c.Ks i o
def pfN (i : Nat) : PF := fun δ => match δ[i]? with
  | some (some _) => some []
  | _ => none
/-- a name that leads into slot i -/
def pfA (i j : Nat) : PF := fun δ => match δ[i]?, δ[j]? with
  | some (some _), some (some (.lck ns)) => some (pathD ns)
  | _, _ => none
theorem At.last : ∀ {p : List Nat} {k : Nat} {v w : V}, At H (p ++ [k]) v w → ∃ y, At H p v y ∧ At H [k] y w
  | [], k, v, w, h => ⟨v, rfl, h⟩
  | m :: p, k, v, w, ⟨a, o, vs, u, e, h1, h2, h3, h4⟩ => by
    obtain ⟨y, q1, q2⟩ := At.last h4
    exact ⟨y, ⟨a, o, vs, u, e, h1, h2, h3, q1⟩, q2⟩
/-- what stands at a place, seen -/
def plD (i : Nat) (pf : PF) (δ : Env) : Option (List Nat × D × D) := match pf δ, δ[i]? with
  | some p, some (some d) => (getP p d).map fun d' => (p, d, d')
  | _, _ => none
def fPl (i : Nat) (pf : PF) : EF := fun δ => (plD i pf δ).bind fun q => some (.ok q.2.2)
/-- xs[i], xs a list of owned things at a place -/
def pfIx (i : Nat) (pf : PF) (fb : EF) : PF := fun δ => (plD i pf δ).bind fun q => match q.2.2, fb δ with
  | .lst ds, some (.ok (.int j)) => (ixN ds.length j).map fun k => q.1 ++ [k]
  | _, _ => none
end Ev

set_option maxHeartbeats 4000000
namespace Ev
open PySem PySem.Spec PySem.Calls PyProof.Rows L2
variable [Wd]
variable {X : Cx} {c : Cp} {F G H F' G' H' : Hp} {σ : L2.St} {δ : Env} {a b e tg ob : Expr} {es : List Expr} {pos p : Pos} {x : Str} {ta tb tc ty rt : Ty} {oa o1 oc o o' : OT} {os : List OT} {fa fb fc : Env → Option R} {fs : Env → Option RL} {st : Stmt} {ss : List Stmt} {A A' : List Addr} {i : Nat} {pf : PF}
/-- what stands at the place of an expression -/
theorem Pl.at {r w : V} {pth : List Nat} {d d' : D} (P : Pl X c e i o o' pf) (E : c.E F H σ δ) (h1 : pf δ = some pth) (h2 : δ[i]? = some (some d)) (h3 : getP pth d = some d') (hr : σ[i]? = some (some r)) (hw : At H pth r w) :
    ∃ B, Own c.K F H o' d' w B ∧ B.Nodup ∧ (∀ b ∈ B, F b = none ∧ c.G b = none) ∧
      (∀ (k : Nat) (kd : Kd) (d1 : D), k ≠ i → c.Ks[k]? = some kd → kd.isAl = false → δ[k]? = some (some d1) → ∃ w1 A1, σ[k]? = some (some w1) ∧ Own c.K F (hid H B) kd.ot d1 w1 A1) ∧
      ∀ {F' H' : Hp} {d'' : D} {B' : List Addr}, Same F F' → Same F' H' → (∀ b, b ∉ B → F b = none → H b ≠ none → F' b = none) → (∀ b, b ∉ B → H b ≠ none → H' b = H b) → Own c.K F' H' o' d'' w B' → B'.Nodup → (∀ b ∈ B', b ∈ B ∨ H b = none) → (∀ b ∈ B', F' b = none) →
      (∀ (j : Nat) (o2 : OT) (ns : List Int) (q : List Nat) (v : V), c.Ks[j]? = some (.al i o2) → δ[j]? = some (some (.lck ns)) → pathD ns = pth ++ q → otP o (pth ++ q) = some o2 → At H q w v → At H' q w v) →
      c.E F' H' σ (δ.set i (some (setP pth d'' d))) := by
  obtain ⟨r', w', B, e2, e3, ow, nB, hB, oth, put⟩ := EnvOk.plc E P.rk h2 (P.ty E h1) h3
  rw [hr] at e2; cases e2
  obtain rfl := At.fn hw e3
  exact ⟨B, ow, nB, hB, oth, put⟩
/-- xs[j], xs a list of fixed things at a place -/
def pfH (i : Nat) (pf : PF) (j : Nat) : PF := fun δ => (plD i pf δ).bind fun q => match q.2.2 with
  | .lst ds => if j < ds.length then some (q.1 ++ [j]) else none
  | _ => none
inductive RM where
  | ok (d : D) (δ : Env) | ex (x : Xd) (δ : Env)
abbrev EM := Env → Option RM
def Gx (c : Cp) (ty : Ty) (F H : Hp) (σ : L2.St) (Q : VK) : Option RM → Prop
  | some (.ok d δ) => ∀ v F' H', Same F F' → c.E F' H' σ δ → Post c.K H F' H' ty d v → Q v H'
  | some (.ex x δ) => ∀ cls u dx F' H', RelV cls u → Same F F' → c.E F' H' σ δ → XRep c.K F' H' x cls dx → c.W u dx σ H'
  | none => False
def tM (c : Cp) (ty : Ty) (f : EM) : TE := fun σ H Q => ∃ F δ, c.E F H σ δ ∧ Gx c ty F H σ Q (f δ)
theorem Gx.up {Q : VK} {r : Option RM} (g : Gx c ty F H σ Q r) (u : Up F H F' H') : Gx c ty F' H' σ Q r := by
  cases r with
  | none => exact g
  | some r =>
    cases r with
    | ok d δ => exact fun v F2 H2 s E p => g v F2 H2 (u.ff.trans s) E (p.up u.hh)
    | ex x δ => exact fun cls w dx F2 H2 rv s E xr => g cls w dx F2 H2 rv (u.ff.trans s) E xr
def bndX (r : Option R) (δ : Env) (k : D → Option RM) : Option RM := match r with
  | some (.ok d) => k d
  | some (.ex x) => some (.ex x δ)
  | none => none
theorem Gx.bad {Q : VK} {x : Xd} (g : Gx c ty F H σ Q (some (.ex x δ))) (E : c.E F H σ δ) : Bad c F H σ x := fun cls u dx F' H' rv up xr => g cls u dx F' H' rv up.ff (Cp.E.up E up) xr
def sExM (f : EM) : So := fun δ => match f δ with
  | some (.ok _ δ) => some (.nx δ)
  | some (.ex x δ) => some (.ex x δ)
  | none => none
def kLst (i : Nat) (q : List Nat × D × D) (δ : Env) (f : List D → Option (D × List D)) : Option RM := match q.2.2 with
  | .lst xs => (f xs).map fun z => .ok z.1 (δ.set i (some (setP q.1 (.lst z.2) q.2.1)))
  | _ => none
def appL (v : D) (xs : List D) : Option (D × List D) := if xs.length < sizeLine then some (.non, xs ++ [v]) else none
def mApp (i : Nat) (pf : PF) (fa : EF) : EM := fun δ => (plD i pf δ).bind fun q => bndX (fa δ) δ fun v => kLst i q δ (appL v)
variable {apos cpos : Pos}
end Ev

set_option maxHeartbeats 4000000
namespace Ev
open PySem PySem.Spec PySem.Calls PyProof.Rows L2
variable [Wd]
variable {X : Cx} {c : Cp} {F G H F' G' H' : Hp} {σ : L2.St} {δ : Env} {a b e tg ob : Expr} {es : List Expr} {pos p : Pos} {x : Str} {ta tb tc ty rt : Ty} {oa o1 oc o o' : OT} {os : List OT} {fa fb fc : Env → Option R} {fs : Env → Option RL} {st : Stmt} {ss : List Stmt} {A A' : List Addr} {i : Nat} {pf : PF} {apos cpos : Pos}
def popL (xs : List D) : Option (D × List D) := match xs.getLast? with
  | some d => some (d, xs.dropLast)
  | none => none
def mPop (i : Nat) (pf : PF) : EM := fun δ => (plD i pf δ).bind fun q => kLst i q δ popL
def clrL (_ : List D) : Option (D × List D) := some (.non, [])
def mClr (i : Nat) (pf : PF) : EM := fun δ => (plD i pf δ).bind fun q => kLst i q δ clrL
def extL (v : D) (xs : List D) : Option (D × List D) := match v with
  | .lst es => if xs.length + es.length ≤ sizeLine then some (.non, xs ++ es) else none
  | _ => none
def mExt (i : Nat) (pf : PF) (fa : EF) : EM := fun δ => (plD i pf δ).bind fun q => bndX (fa δ) δ fun v => kLst i q δ (extL v)
def sSetI (i : Nat) (pf : PF) (fk fe : EF) : So := fun δ => bndS (fe δ) δ fun v => (plD i pf δ).bind fun q => match q.2.2, fk δ with
  | .lst xs, some (.ok (.int j)) => (ixN xs.length j).map fun m => .nx (δ.set i (some (setP q.1 (.lst (xs.set m v)) q.2.1)))
  | _, _ => none
def alsB (Ks : List Kd) (i : Nat) (js : List Nat) : Bool := (List.range Ks.length).all fun l => match Ks[l]? with
  | some (.al k _) => k != i || js.contains l
  | _ => true
def okW (js : List Nat) (pre : List Nat) (δ : Env) : Bool := js.all fun l => match δ[l]? with
  | some (some (.lck ns)) => !pre.isPrefixOf (pathD ns)
  | _ => true
def sSetH (i : Nat) (pf : PF) (j : Nat) (fe : EF) (js : List Nat) (own : Bool) : So := fun δ => bndS (fe δ) δ fun v => (plD i pf δ).bind fun q => match q.2.2 with
  | .lst ds => if j < ds.length ∧ (own = true → okW js (q.1 ++ [j]) δ = true) then some (.nx (δ.set i (some (setP q.1 (.lst (ds.set j v)) q.2.1)))) else none
  | _ => none
def pthI (q : List Nat) : List Int := q.map Int.ofNat
omit [Wd] in
def sAl (j i : Nat) (pf : PF) : So := fun δ => (pf δ).bind fun q => some (.nx (δ.set j (some (.lck (pthI q)))))
end Ev

set_option maxHeartbeats 4000000
namespace Ev
open PySem PySem.Spec PySem.Calls PyProof.Rows L2
variable [Wd]
variable {X : Cx} {c : Cp} {F G H F' G' H' : Hp} {σ : L2.St} {δ : Env} {a b e tg ob : Expr} {es : List Expr} {pos p : Pos} {x : Str} {ta tb tc ty rt : Ty} {oa o1 oc o o' : OT} {os os1 os2 : List OT} {fa fb fc : Env → Option R} {fs f1 f2 : Env → Option RL} {st : Stmt} {ss : List Stmt} {A A' : List Addr} {i : Nat} {pf : PF} {apos cpos : Pos}
def Gf (c : Cp) (os : List OT) (F H : Hp) (σ : L2.St) (Q : List V → Hp → Prop) : Option RL → Prop
  | some (.ok ds) => ∀ vs F' H' A, Up F H F' H' → OwnS c.K F' H' os ds vs A → A.Nodup → (∀ b ∈ A, H b = none ∧ F' b = none) → Q vs H'
  | some (.ex x) => Bad c F H σ x
  | none => False
def tFr (c : Cp) (os : List OT) (f : EL) : TA := fun σ H Q => ∃ F δ, c.E F H σ δ ∧ Gf c os F H σ Q (f δ)
theorem OwnS.le {K : PySem.W.Frag} : ∀ {os : List OT} {ds : List D} {vs : List V} {A : List Addr}, OwnS K F H os ds vs A → ds.length ≤ os.length
  | _, [], _, _, _ => Nat.zero_le _
  | o :: os, d :: ds, _, _, h => by
    simp only [OwnS] at h
    obtain ⟨v, r, A1, A2, rfl, h1, h2, rfl⟩ := h
    have := OwnS.le h2
    simp only [List.length_cons]; omega
  | [], _ :: _, _, _, h => by simp [OwnS] at h
theorem EnvOk.unsetL {K : PySem.W.Frag} {Ks : List Kd} {F0 : Hp} (E : EnvOk K Ks F0 G F H σ δ) : ∀ js : List Nat, EnvOk K Ks F0 G F H σ (Ev.unsetL δ js)
  | [] => E
  | j :: js => (EnvOk.unsetL E js).unset j
def sSetR (i : Nat) (js : List Nat) (fa : EF) : So := fun δ => bndS (fa δ) δ fun d => some (.nx ((unsetL δ js).set i (some d)))
def slotN (n : Nat) (δ : Env) (k : D → Option RI) : Option RI := match δ[n]? with
  | some (some s) => k s
  | _ => none
def outIn (n : Nat) : Option Out → Option RI
  | some (.nx δ) => slotN n δ fun s => some (.ok .non s)
  | some (.ret d δ) => slotN n δ fun s => some (.ok d s)
  | some (.ex x δ) => slotN n δ fun s => some (.ex x s)
  | _ => none
/-- n: the place of the changed argument among all -/
def defIn (n N : Nat) (g : So) : FnI := fun d0 ds => outIn n (g (startE N (ds.take n ++ d0 :: ds.drop n)))
def spIn (K : PySem.W.Frag) (o : OT) (os1 os2 : List OT) (φ : FnI) : Sp := fun vs H Q E => ∃ F d0 v0 ds1 ds2 vs1 vs2 A, vs = vs1 ++ v0 :: vs2 ∧ Same F H ∧ Own K F H o d0 v0 A ∧ A.Nodup ∧ (∀ a ∈ A, F a = none) ∧ ViewL K F (hid H A) os1 ds1 vs1 ∧ ViewL K F (hid H A) os2 ds2 vs2 ∧ GIo K F H A o v0 Q E (φ d0 (ds1 ++ ds2))
theorem EnvOk.endN {K : PySem.W.Frag} {Ks : List Kd} {v0 : V} {s : D} {n : Nat} (hk : Ks[n]? = some (.pr o v0)) (E : EnvOk K Ks F (hid H A) F' H' σ δ) (h : δ[n]? = some (some s)) : ∃ A', UpX F H A F' H' A' ∧ Own K F' H' o s v0 A' := by
  obtain ⟨As, h1, h2, h3, h4⟩ := EnvOk.sl E
  obtain ⟨v, e, s0⟩ := h1 n _ s hk h
  obtain ⟨ev, ow⟩ : v = v0 ∧ Own K F' H' o s v (As n) := s0
  subst ev
  have hG : ∀ a, a ∉ A → (hid H A) a = H a := fun a ha => by unfold hid; rw [if_neg ha]
  refine ⟨As n, ⟨E.f0, E.fh, fun a na e1 e2 => E.fr a e1 (by rw [hG a na]; exact e2), fun a na e2 => ?_, fun a ha => ?_, fun a ha => (h4 n a ha).1, h2 n⟩, ow⟩
  · rw [← hG a na]
    exact Same.eq E.gh (by rw [hG a na]; exact e2)
  · by_cases z : a ∈ A
    · exact .inl z
    · right
      have := (h4 n a ha).2.1
      rwa [hG a z] at this
section
variable {P : Program} {w : World} {K : PySem.W.Frag} {mg : Str → Option Value} {base : Heap} {xn qual : Str} {params : Arguments} {body : List Stmt} {scope : Scope} {dvs : List V} {kws : List (Str × V)} {f : Addr} {fd : FuncData}
def BodyN (P : Program) (w : World) (K : PySem.W.Frag) (mg : Str → Option Value) (base : Heap) (N : List Str) (qual : Str) (scope : Scope) (f : Addr) (k : Nat) (Kf : V → List Kd) (body : List Stmt) (g : So) : Prop :=
  ∀ (cdv : Value) (A : Around) (outer : List PySem.Env) (s : Shared) (H : Hp) (E : XK) (c : Cp) (v0 : V), Room k (A.deeper (envOfC qual scope s.heap.objs.size f cdv)) → c.K = K → c.Ks = Kf v0 →
    Takes (cxOf (L2.CX P w) P w K mg base N qual scope f cdv A outer s H E) c.W → PSs (cxOf (L2.CX P w) P w K mg base N qual scope f cdv A outer s H E) body (tS c (.vw .fz) g)
end
structure CalN (P : Program) (w : World) (K : PySem.W.Frag) (mg : Str → Option Value) (base : Heap) (x : Str) (k : Nat) (o : OT) (os1 os2 : List OT) (φ : FnI) : Prop where
  ex : ∃ (f : Addr) (fd : FuncData) (ps : List Str), FnOk P w K mg base (L2.CX P w) k f fd ps (spIn K o os1 os2 φ) ∧ mg x = some (.ref f) ∧ PySem.W.keepIn K (.ref f) = true ∧ Binds K fd ps []
/-- what stands beside the place: frozen, or another name's thing -/
def SV (c : Cp) (i : Nat) (σ : L2.St) (δ : Env) (F : Hp) (o : OT) (d : D) (v : V) : Prop := (o = .fz ∧ Is c.K F d v) ∨ ∃ k kd, k ≠ i ∧ c.Ks[k]? = some kd ∧ kd.isAl = false ∧ kd.ot = o ∧ δ[k]? = some (some d) ∧ σ[k]? = some (some v)
def SVL (c : Cp) (i : Nat) (σ : L2.St) (δ : Env) (F : Hp) : List OT → List D → List V → Prop
  | [], [], vs => vs = []
  | o :: os, d :: ds, vs => ∃ v r, vs = v :: r ∧ SV c i σ δ F o d v ∧ SVL c i σ δ F os ds r
  | _, _, _ => False
theorem SV.mono {d : D} {v : V} (h : SV c i σ δ F o d v) (s : Same F F') : SV c i σ δ F' o d v := h.imp (fun q => ⟨q.1, q.2.mono s⟩) id
def GO (c : Cp) (i : Nat) (os : List OT) (F H : Hp) (σ : L2.St) (δ : Env) (Q : List V → Hp → Prop) : Option RL → Prop
  | some (.ok ds) => ∀ vs F' H', Up F H F' H' → SVL c i σ δ F' os ds vs → Q vs H'
  | some (.ex x) => Bad c F H σ x
  | none => False
def tO (c : Cp) (i : Nat) (os : List OT) (f : EL) : TA := fun σ H Q => ∃ F δ, c.E F H σ δ ∧ GO c i os F H σ δ Q (f δ)
/-- .., the place, .. -/
def GIn (c : Cp) (i : Nat) (p : List Nat) (os1 os2 : List OT) (F H : Hp) (σ : L2.St) (δ : Env) (Q : List V → Hp → Prop) : Option RL → Option RL → Prop
  | some (.ok ds1), some (.ok ds2) => ∀ vs1 v0 vs2 F' H' r, Up F H F' H' → σ[i]? = some (some r) → At H' p r v0 → SVL c i σ δ F' os1 ds1 vs1 → SVL c i σ δ F' os2 ds2 vs2 → Q (vs1 ++ v0 :: vs2) H'
  | some (.ex x), _ => Bad c F H σ x
  | some (.ok _), some (.ex x) => Bad c F H σ x
  | _, _ => False
def tIo (c : Cp) (i : Nat) (pf : PF) (os1 os2 : List OT) (f1 f2 : EL) : TA := fun σ H Q => ∃ F δ p, c.E F H σ δ ∧ pf δ = some p ∧ GIn c i p os1 os2 F H σ δ Q (f1 δ) (f2 δ)
theorem SVL.view {B : List Addr} (oth : ∀ (k : Nat) (kd : Kd) (d1 : D), k ≠ i → c.Ks[k]? = some kd → kd.isAl = false → δ[k]? = some (some d1) → ∃ w1 A1, σ[k]? = some (some w1) ∧ Own c.K F (hid H B) kd.ot d1 w1 A1) : ∀ {os : List OT} {ds : List D} {vs : List V}, SVL c i σ δ F os ds vs → ViewL c.K F (hid H B) os ds vs
  | [], [], _, h => h
  | o :: os, d :: ds, _, h => by
    simp only [SVL] at h
    obtain ⟨v, r, rfl, h1, h2⟩ := h
    refine ⟨v, r, rfl, ?_, SVL.view oth h2⟩
    rcases h1 with ⟨rfl, h1⟩ | ⟨k, kd, nk, hk, hna, rfl, e1, ev⟩
    · exact ⟨[], Own.of_is h1⟩
    · obtain ⟨w1, A1, e2, ow⟩ := oth k kd d nk hk hna e1
      rw [ev] at e2; cases e2
      exact ⟨A1, ow⟩
  | [], _ :: _, _, h => by simp [SVL] at h
  | _ :: _, [], _, h => by simp [SVL] at h
/-- nothing leads through the place into its thing -/
def okS (js : List Nat) (pre : List Nat) (δ : Env) : Bool := js.all fun l => match δ[l]? with
  | some (some (.lck ns)) => !pre.isPrefixOf (pathD ns) || pathD ns == pre
  | _ => true
def bndXL (r : Option RL) (δ : Env) (k : List D → Option RM) : Option RM := match r with
  | some (.ok d) => k d
  | some (.ex x) => some (.ex x δ)
  | none => none
def kIo (i : Nat) (q : List Nat × D × D) (δ : Env) : Option RI → Option RM
  | some (.ok d s) => some (.ok d (δ.set i (some (setP q.1 s q.2.1))))
  | some (.ex x s) => some (.ex x (δ.set i (some (setP q.1 s q.2.1))))
  | none => none
def mCallN (i : Nat) (pf : PF) (js : List Nat) (φ : FnI) (f1 f2 : EL) : EM := fun δ => (plD i pf δ).bind fun q => bndXL (f1 δ) δ fun ds1 => bndXL (f2 δ) δ fun ds2 => if okS js q.1 δ then kIo i q δ (φ q.2.2 (ds1 ++ ds2)) else none
def mMethP (i : Nat) (pf : PF) (js : List Nat) (ci : Nat) (φ : FnI) (fs : EL) : EM := fun δ => (plD i pf δ).bind fun q => if isIns ci q.2.2 then bndXL (fs δ) δ fun ds => if okS js q.1 δ then kIo i q δ (φ q.2.2 ds) else none else none
end Ev

set_option maxHeartbeats 4000000
namespace Ev
open PySem PySem.Spec PySem.Calls PyProof.Rows L2
variable [Wd]
variable {X : Cx} {c : Cp} {F G H F' G' H' : Hp} {σ : L2.St} {δ : Env} {a b e tg ob : Expr} {es : List Expr} {pos p : Pos} {x : Str} {ta tb tc ty rt : Ty} {oa o1 oc o o' : OT} {os os1 os2 : List OT} {fa fb fc : Env → Option R} {fs f1 f2 : Env → Option RL} {st : Stmt} {ss : List Stmt} {A A' : List Addr} {i : Nat} {pf : PF} {apos cpos : Pos}
inductive RB where
  | ok (b : Bool) (δ : Env) | ex (x : Xd) (δ : Env)
abbrev EB := Env → Option RB
def Gb (c : Cp) (F H : Hp) (σ : L2.St) (Q : Bool → Hp → Prop) : Option RB → Prop
  | some (.ok b δ) => ∀ F' H', Same F F' → c.E F' H' σ δ → Q b H'
  | some (.ex x δ) => ∀ cls u dx F' H', RelV cls u → Same F F' → c.E F' H' σ δ → XRep c.K F' H' x cls dx → c.W u dx σ H'
  | none => False
def tTM (c : Cp) (f : EB) : TT := fun σ H Q => ∃ F δ, c.E F H σ δ ∧ Gb c F H σ Q (f δ)
theorem Gb.up {Q : Bool → Hp → Prop} {r : Option RB} (g : Gb c F H σ Q r) (s : Same F F') : Gb c F' H' σ Q r := by
  cases r with
  | none => exact g
  | some r =>
    cases r with
    | ok b δ => exact fun F2 H2 s2 E => g F2 H2 (s.trans s2) E
    | ex x δ => exact fun cls w dx F2 H2 rv s2 E xr => g cls w dx F2 H2 rv (s.trans s2) E xr
/-- a test that changes nothing -/
def bLift (f : Env → Option R) : EB := fun δ => match f δ with
  | some (.ok (.bl b)) => some (.ok b δ)
  | some (.ex x) => some (.ex x δ)
  | _ => none
def bNot (f : EB) : EB := fun δ => match f δ with
  | some (.ok b δ1) => some (.ok (!b) δ1)
  | r => r
def bAnd (f g : EB) : EB := fun δ => match f δ with
  | some (.ok b δ1) => if b then g δ1 else some (.ok false δ1)
  | r => r
def bOr (f g : EB) : EB := fun δ => match f δ with
  | some (.ok b δ1) => if b then some (.ok true δ1) else g δ1
  | r => r
/-- a bool that a change gives -/
def bVal (f : EM) : EB := fun δ => match f δ with
  | some (.ok (.bl b) δ1) => some (.ok b δ1)
  | some (.ex x δ1) => some (.ex x δ1)
  | _ => none
/-- f(..) is not None -/
def bNone (f : D → D → Option Bool) (fm : EM) : EB := fun δ => match fm δ with
  | some (.ok d δ1) => (f d .non).map fun k => .ok k δ1
  | some (.ex x δ1) => some (.ex x δ1)
  | none => none
def sIfM (f : EB) (ga gb : So) : So := fun δ => match f δ with
  | some (.ok b δ1) => if b then ga δ1 else gb δ1
  | some (.ex x δ1) => some (.ex x δ1)
  | none => none
def sRetM (f : EM) : So := fun δ => match f δ with
  | some (.ok d δ1) => some (.ret d δ1)
  | some (.ex x δ1) => some (.ex x δ1)
  | none => none
def sSetM (i : Nat) (f : EM) : So := fun δ => match f δ with
  | some (.ok d δ1) => some (.nx (δ1.set i (some d)))
  | some (.ex x δ1) => some (.ex x δ1)
  | none => none
end Ev

set_option maxHeartbeats 4000000
namespace Ev
open PySem PySem.Spec PyProof.Rows L2
variable [Wd]
variable {X : Cx} {c : Cp} {F G H F' G' H' : Hp} {σ : L2.St} {δ : Env} {a b e tg : Expr} {es : List Expr} {pos p : Pos} {x : Str} {ta tb tc ty rt : Ty} {oa ob oc o o' : OT} {os : List OT} {fa fb fc : Env → Option R} {fs : Env → Option RL} {st : Stmt} {ss : List Stmt}
theorem set_rootK {Ks : List Kd} {i l : Nat} {o o1 : OT} {r : V} (hk : Ks[i]? = some (.ar o)) : RootK (Ks.set i (.pr o r)) l o1 ↔ RootK Ks l o1 := by
  have hi : i < Ks.length := (List.getElem?_eq_some_iff.mp hk).1
  unfold RootK
  by_cases e : i = l
  · subst e
    rw [List.getElem?_set_self hi, hk]
    constructor
    · rintro (q | ⟨v, q⟩)
      · cases q
      · cases q; exact .inl rfl
    · rintro (q | ⟨v, q⟩)
      · cases q; exact .inr ⟨_, rfl⟩
      · cases q
  · rw [List.getElem?_set_ne e]
theorem set_al {Ks : List Kd} {i j l : Nat} {o o1 : OT} {r : V} (hk : Ks[i]? = some (.ar o)) : (Ks.set i (.pr o r))[j]? = some (.al l o1) ↔ Ks[j]? = some (.al l o1) := by
  have hi : i < Ks.length := (List.getElem?_eq_some_iff.mp hk).1
  by_cases e : i = j
  · subst e
    rw [List.getElem?_set_self hi, hk]
    constructor <;> (intro q; cases q)
  · rw [List.getElem?_set_ne e]
theorem EnvOk.pin {K : PySem.W.Frag} {Ks : List Kd} {F0 : Hp} {i : Nat} {r : V} (E : EnvOk K Ks F0 G F H σ δ) (hk : Ks[i]? = some (.ar o)) (hr : σ[i]? = some (some r)) : EnvOk K (Ks.set i (.pr o r)) F0 G F H σ δ := by
  have hi : i < Ks.length := (List.getElem?_eq_some_iff.mp hk).1
  obtain ⟨As, h1, h2, h3, h4⟩ := EnvOk.sl E
  refine ⟨by rw [List.length_set]; exact E.ls, by rw [List.length_set]; exact E.ld, E.gh, E.f0, E.fh, E.fr, fun j l o2 ns e1 e2 => ?_, As, fun k kd d e1 e2 => ?_, h2, h3, h4⟩
  · obtain ⟨o1, x1, x2, z⟩ := E.al j l o2 ns ((set_al hk).mp e1) e2
    exact ⟨o1, (set_rootK hk).mpr x1, x2, z⟩
  · by_cases e : i = k
    · subst e
      rw [List.getElem?_set_self hi] at e1
      cases e1
      obtain ⟨v, ev, s⟩ := h1 i _ d hk e2
      rw [hr] at ev; cases ev
      exact ⟨r, hr, rfl, s⟩
    · rw [List.getElem?_set_ne e] at e1
      exact h1 k kd d e1 e2
theorem EnvOk.unpin {K : PySem.W.Frag} {Ks : List Kd} {F0 : Hp} {i : Nat} {r : V} (hk : Ks[i]? = some (.ar o)) (E : EnvOk K (Ks.set i (.pr o r)) F0 G F H σ δ) : EnvOk K Ks F0 G F H σ δ := by
  have hi : i < Ks.length := (List.getElem?_eq_some_iff.mp hk).1
  obtain ⟨As, h1, h2, h3, h4⟩ := EnvOk.sl E
  refine ⟨by have := E.ls; rwa [List.length_set] at this, by have := E.ld; rwa [List.length_set] at this, E.gh, E.f0, E.fh, E.fr, fun j l o2 ns e1 e2 => ?_, As, fun k kd d e1 e2 => ?_, h2, h3, h4⟩
  · obtain ⟨o1, x1, x2, z⟩ := E.al j l o2 ns ((set_al hk).mpr e1) e2
    exact ⟨o1, (set_rootK hk).mp x1, x2, z⟩
  · by_cases e : i = k
    · subst e
      rw [hk] at e1; cases e1
      obtain ⟨v, ev, s⟩ := h1 i _ d (List.getElem?_set_self hi) e2
      exact ⟨v, ev, s.2⟩
    · exact h1 k kd d (by rw [List.getElem?_set_ne e]; exact e1) e2
def Cp.pin (c : Cp) (i : Nat) (o : OT) (r : V) : Cp := { c with Ks := c.Ks.set i (.pr o r) }
theorem Gs.pin {D : Ends} {i : Nat} {r : V} {u : Option Out} (hk : c.Ks[i]? = some (.ar o)) (h : Gs c rt F D u) : Gs (c.pin i o r) rt F D u := by
  cases u with
  | none => exact h
  | some u =>
    cases u with
    | nx δ => exact fun σ F' H' s E => h σ F' H' s (EnvOk.unpin hk E)
    | brk δ => exact fun σ F' H' s E => h σ F' H' s (EnvOk.unpin hk E)
    | ct δ => exact fun σ F' H' s E => h σ F' H' s (EnvOk.unpin hk E)
    | ret d δ => exact fun v σ F' H' E p => h v σ F' H' (EnvOk.unpin hk E) p
    | ex x δ => exact fun cls u dx σ F' H' a s E y => h cls u dx σ F' H' a s (EnvOk.unpin hk E) y
def tSp (c : Cp) (i : Nat) (o : OT) (rt : Ty) (g : So) : TS := fun D σ H => ∃ r, tS (c.pin i o r) rt g D σ H
theorem PSs.pinned {i : Nat} {g : So} (h : ∀ r, PSs X ss (tS (c.pin i o r) rt g)) : PSs X ss (tSp c i o rt g) := ⟨fun pins s σ H D I ⟨r, q⟩ => (h r).run pins s σ H D I q⟩
def setVs (σ : L2.St) : List Nat → List V → L2.St
  | j :: js, v :: vs => setVs (σ.set j (some v)) js vs
  | _, _ => σ
def gNms (js : List Nat) : TGs := fun vs σ H Q => vs.length = js.length ∧ Q (setVs σ js vs) H
/-- what the names get at turn k -/
def bindM (k : Nat) : Nat → List Nat → List OT → List D → Env → Option Env
  | m, j :: js, o :: os, d :: ds, δ => bindM k (m + 1) js os ds (δ.set j (some (if o.own then .lck (pthI [k, m]) else d)))
  | _, [], [], [], δ => some δ
  | _, _, _, _, _ => none
/-- the kinds of the names -/
def tgOk (Ks : List Kd) (i : Nat) : List Nat → List OT → Bool
  | j :: js, o :: os => (match Ks[j]? with
    | some (.al l o2) => decide (l = i) && o.own && OT.beq o2 o
    | some (.ve .fz) => OT.beq o OT.fz
    | _ => false) && tgOk Ks i js os
  | [], [] => true
  | _, _ => false
def faGo (i : Nat) (bd : Nat → D → Env → Option Env) (g : So) : Nat → Nat → So
  | 0, k, δ => match δ[i]? with
    | some (some (.lst ds)) => if ds.length ≤ k then some (.nx δ) else none
    | _ => none
  | n + 1, k, δ => match δ[i]? with
    | some (some (.lst ds)) => (match ds[k]? with
      | none => some (.nx δ)
      | some d => (bd k d δ).bind fun δ1 => match g δ1 with
        | some (.nx δ2) => faGo i bd g n (k + 1) δ2
        | some (.ct δ2) => faGo i bd g n (k + 1) δ2
        | some (.brk δ2) => some (.nx δ2)
        | r => r)
    | _ => none
def sForA (i : Nat) (bd : Nat → D → Env → Option Env) (g : So) : So := fun δ => match δ[i]? with
  | some (some (.lst ds)) => faGo i bd g ds.length 0 δ
  | _ => none
/-- for a, b, .. in xs, xs a root: a list of lists of a fixed length -/
def bdM (js : List Nat) (os : List OT) : Nat → D → Env → Option Env := fun k d δ => match d with
  | .lst ds => bindM k 0 js os ds δ
  | _ => none
/-- for a in xs, xs a root: a list of owned things -/
def bd1 (j : Nat) : Nat → D → Env → Option Env := fun k _ δ => some (δ.set j (some (.lck (pthI [k]))))
theorem OwnL.snoc {K : PySem.W.Frag} {d : D} {v : V} : ∀ {o : OT} {ds : List D} {vs : List V} {B A : List Addr}, OwnL K F H o ds vs B → Own K F H o d v A → OwnL K F H o (ds ++ [d]) (vs ++ [v]) (B ++ A)
  | o, [], vs, B, A, h, h2 => by
    simp only [OwnL] at h
    obtain ⟨rfl, rfl⟩ := h
    simp only [List.nil_append, OwnL]
    exact ⟨v, [], A, [], rfl, h2, ⟨rfl, rfl⟩, by simp⟩
  | o, d0 :: ds, vs, B, A, h, h2 => by
    simp only [OwnL] at h
    obtain ⟨v0, r, A1, A2, rfl, x1, x2, rfl⟩ := h
    simp only [List.cons_append, OwnL]
    exact ⟨v0, r ++ [v], A1, A2 ++ A, rfl, x1, OwnL.snoc x2 h2, by simp⟩
variable {ob : Expr} {o1 : OT} {pf : PF} {apos cpos : Pos} {A : List Addr}
end Ev

set_option maxHeartbeats 4000000
namespace Ev
open PySem PySem.Spec PyProof.Rows L2
variable [Wd]
variable {X : Cx} {c : Cp} {F G H F' G' H' : Hp} {σ : L2.St} {δ : Env} {a b e tg : Expr} {es : List Expr} {pos p : Pos} {x : Str} {ta tb tc ty rt : Ty} {oa ob oc o o' oj : OT} {os : List OT} {fa fb fc : Env → Option R} {fs : Env → Option RL} {st : Stmt} {ss : List Stmt} {i : Nat}
def GmV (c : Cp) (os : List OT) (F H : Hp) (σ : L2.St) (A0 : List Addr) (Q : List V → Hp → Prop) : Option RL → Prop
  | some (.ok ds) => ∀ vs F' H' A, Up F H F' H' → OwnS c.K F' H' os ds vs A → A.Nodup → (∀ b ∈ A, (H b = none ∨ b ∈ A0) ∧ F' b = none) → Q vs H'
  | some (.ex x) => Bad c F H σ x
  | none => False
def tMv (c : Cp) (i : Nat) (o : OT) (os : List OT) (f : D → EL) : TA := fun σ H Q => ∃ F δ d v A0, c.E F H σ δ ∧ σ[i]? = some (some v) ∧ Own c.K F H o d v A0 ∧ A0.Nodup ∧ (∀ a ∈ A0, F a = none) ∧ GmV c os F H σ A0 Q (f d δ)
def lMv (fs : EL) : D → EL := fun d δ => consL (some (.ok d)) (fs δ)
def lMvC (fa : EF) (f : D → EL) : D → EL := fun d δ => consL (fa δ) (f d δ)
def sRetMv (i : Nat) (f : D → EL) : So := fun δ => match δ[i]? with
  | some (some d) => (match f d (δ.set i none) with
    | some (.ok ds) => some (.ret (.lst ds) (δ.set i none))
    | some (.ex x) => some (.ex x (δ.set i none))
    | none => none)
  | _ => none
/-- names that are done with -/
def sDrop (js : List Nat) (g : So) : So := fun δ => g (unsetL δ js)
end Ev

set_option maxHeartbeats 4000000
namespace Ev
open PySem PySem.Spec PySem.Calls PyProof.Rows L2
variable [Wd]
variable {X : Cx} {c : Cp} {F G H F' G' H' : Hp} {σ : L2.St} {δ : Env} {a b e tg ob : Expr} {es : List Expr} {pos p : Pos} {x : Str} {ta tb tc ty rt : Ty} {oa o1 oc o o' oj : OT} {os : List OT} {fa fb fc : Env → Option R} {fs : Env → Option RL} {st : Stmt} {ss : List Stmt} {i : Nat} {pf : PF} {A : List Addr}
def pfF (i : Nat) (pf : PF) (ci j : Nat) : PF := fun δ => (plD i pf δ).bind fun q => match q.2.2 with
  | .ins k ds => if k = ci ∧ j < ds.length then some (q.1 ++ [j]) else none
  | _ => none
theorem ViewL.of_fz {K : PySem.W.Frag} : ∀ {ds : List D} {vs : List V}, IsL K F ds vs → ViewL K F G (List.replicate ds.length .fz) ds vs
  | [], vs, h => by
    simp only [IsL] at h
    subst h
    simp only [List.length_nil, List.replicate, ViewL]
  | d :: ds, vs, h => by
    simp only [IsL] at h
    obtain ⟨v, r, rfl, h1, h2⟩ := h
    simp only [List.length_cons, List.replicate, ViewL]
    exact ⟨v, r, rfl, ⟨[], Own.of_is h1⟩, ViewL.of_fz h2⟩
structure MkK (P : Program) (w : World) (K : PySem.W.Frag) (mg : Str → Option Value) (base : Heap) (ci : Nat) (k : Nat) (os : List OT) (n : Nat) (ks : List Str) (φ : FnI) : Prop where
  ex : ∃ (f : Addr) (fd : FuncData) (ps : List Str) (g : List Value → List Value → List Value), FnOk P w K mg base (L2.CX P w) k f fd ps (spIo K (.ins os) (n + ks.length) φ) ∧ Mk K (clsA K ci) f ∧ KBn K fd ps (n + 1) ks g (fun vs zs => vs ++ zs)
  g : mg (clsT ci).name = some (.ref (clsA K ci))
section
variable {CX : CXT} {k n : Nat} {f C : Addr} {fd : FuncData} {ps ks : List Str} {sp : Sp} {E : L2.St → XK} {t tk : TA} {kws : List Keyword} {g : List Value → List Value → List Value}
def tMakeKS (C : Addr) (n m : Nat) (sp : Sp) (E : L2.St → XK) (t tk : TA) : TE := fun σ H Q => t σ H fun vs H1 => tk σ H1 fun zs H2 => vs.length = n ∧ zs.length = m ∧ ∀ x dx, H2 x = none → H2 dx = none → dx ≠ x →
  sp (.ref x :: vs ++ zs) (upd (upd H2 dx (.own x)) x (.ins C dx [])) (fun v H3 => v = .non ∧ Q (.ref x) H3) (E σ)
end
def fMkK (ci : Nat) (φ : FnI) (fs fk : EL) : EF := fun δ => bndL (fs δ) fun ds => bndL (fk δ) fun es => mkX ci φ (ds ++ es)
end Ev

set_option maxHeartbeats 4000000
namespace Ev
open PySem PySem.Spec PySem.Calls PyProof.Rows L2
variable [Wd]
variable {X : Cx} {c : Cp} {F G H F' G' H' : Hp} {σ : L2.St} {δ : Env} {a b e tg ob : Expr} {es : List Expr} {pos p : Pos} {x : Str} {ta tb tc ty rt : Ty} {oa o1 oc o o' oj : OT} {os : List OT} {fa fb fc : Env → Option R} {fs : Env → Option RL} {st : Stmt} {ss : List Stmt} {i : Nat} {pf : PF} {A : List Addr}
theorem Own.subV {K : PySem.W.Frag} : ∀ {p : List Nat} {o o' : OT} {d d' : D} {r w : V} {B : List Addr}, Own K F H o d r B → otP o p = some o' → getP p d = some d' → At H p r w → ∃ B', Own K F H o' d' w B'
  | [], o, o', d, d', r, w, B, h, t, g, a => by
    cases g
    have a : r = w := a
    subst a
    simp only [otP] at t
    split at t
    · cases t; exact ⟨B, h⟩
    · cases t
  | k :: p, o, o', d, d', r, w, B, h, t, g, a => by
    obtain ⟨l, ho, vs, os, ds, B0, rfl, h1, h2, hd, hS, rfl, tk, _, _⟩ := h.kidsOf t
    obtain ⟨a', ho', vs', u, e, x1, x2, x3, x4⟩ := a
    cases e
    rw [h1] at x1; cases x1
    rw [h2] at x2; cases x2
    simp only [getP, hd] at g
    cases e2 : ds[k]? with
    | none => rw [e2] at g; cases g
    | some d1 =>
      rw [e2] at g
      obtain ⟨o2, eo, w1, Aj, ew, ow⟩ : ∃ o2, os[k]? = some o2 ∧ ∃ w1 Aj, vs[k]? = some w1 ∧ Own K F H o2 d1 w1 Aj := by
        have hlt : k < os.length := Nat.lt_of_lt_of_le (List.getElem?_eq_some_iff.mp e2).1 hS.le
        obtain ⟨w1, Aj, q1, q2⟩ := hS.get (List.getElem?_eq_getElem hlt) e2
        exact ⟨_, List.getElem?_eq_getElem hlt, w1, Aj, q1, q2⟩
      rw [x3] at ew; cases ew
      exact Own.subV ow (tk o2 eo) g x4
/-- e leads to a part of what stands in slot i, which is only seen -/
structure PR (X : Cx) (c : Cp) (e : Expr) (i : Nat) (o o' : OT) (pf : PF) : Prop where
  pe : PE X e (tPl c i pf)
  ty : ∀ {F H : Hp} {σ : L2.St} {δ : Env} {p : List Nat}, c.E F H σ δ → pf δ = some p → otP o p = some o'
  rk : c.Ks[i]? = some (.ve o)
theorem PR.at {r w : V} {pth : List Nat} {d d' : D} (P : PR X c e i o o' pf) (E : c.E F H σ δ) (h1 : pf δ = some pth) (h2 : δ[i]? = some (some d)) (h3 : getP pth d = some d') (hr : σ[i]? = some (some r)) (hw : At H pth r w) : ∃ B, Own c.K F H o' d' w B := by
  obtain ⟨As, k1, _⟩ := EnvOk.sl E
  obtain ⟨v, hv, s⟩ := k1 i _ d P.rk h2
  rw [hr] at hv; cases hv
  obtain ⟨B, s⟩ : ∃ B, Own c.K F c.G o d r B := s
  exact Own.subV (Own.frame (Same.refl _) s fun a ha => Same.eq E.gh (s.there a ha)) (P.ty E h1) h3 hw
def tRp (c : Cp) (i : Nat) (pf : PF) : TS := fun D σ H => ∃ F δ p r, c.E F H σ δ ∧ pf δ = some p ∧ σ[i]? = some (some r) ∧ ∀ w F' H', Up F H F' H' → At H' p r w → D.rt w H'
def pIfN (fc : EF) (pf : PF) : PF := fun δ => match fc δ with
  | some (.ok (.bl false)) => pf δ
  | _ => none
def spP (K : PySem.W.Frag) (o : OT) (n : Nat) (ψ : D → List D → Option (List Nat)) : Sp := fun vs H Q E => ∃ F d0 v0 ds r A p, vs = v0 :: r ∧ ds.length = n ∧ Same F H ∧ Own K F H o d0 v0 A ∧ IsL K F ds r ∧ ψ d0 ds = some p ∧ ∀ v F' H', Up F H F' H' → At H' p v0 v → Q v H'
def defP (N : Nat) (pf : PF) : D → List D → Option (List Nat) := fun d0 ds => pf (startE N (d0 :: ds))
def BodyP (P : Program) (w : World) (K : PySem.W.Frag) (mg : Str → Option Value) (base : Heap) (N : List Str) (qual : Str) (scope : Scope) (f : Addr) (k : Nat) (Ks : List Kd) (body : List Stmt) (pf : PF) : Prop :=
  ∀ (cdv : Value) (A : Around) (outer : List PySem.Env) (s : Shared) (H : Hp) (E : XK) (c : Cp), Room k (A.deeper (envOfC qual scope s.heap.objs.size f cdv)) → c.K = K → c.Ks = Ks →
    Takes (cxOf (L2.CX P w) P w K mg base N qual scope f cdv A outer s H E) c.W → PSs (cxOf (L2.CX P w) P w K mg base N qual scope f cdv A outer s H E) body (tRp c 0 pf)
variable {P : Program} {w : World} {K : PySem.W.Frag} {mg : Str → Option Value} {base : Heap} {xn qual : Str} {params : Arguments} {body : List Stmt} {scope : Scope} {dvs : List V} {kws : List (Str × V)} {f : Addr} {fd : FuncData}
end Ev

set_option maxHeartbeats 4000000
namespace Ev
open PySem PySem.Spec PySem.Calls PyProof.Rows L2
variable [Wd]
variable {X : Cx} {c : Cp} {F G H F' G' H' : Hp} {σ : L2.St} {δ : Env} {a b e tg ob : Expr} {es : List Expr} {pos p : Pos} {x : Str} {ta tb tc ty rt : Ty} {oa o1 oc o o' oj : OT} {os : List OT} {fa fb fc : Env → Option R} {fs : Env → Option RL} {st : Stmt} {ss : List Stmt} {i : Nat} {pf : PF} {A : List Addr}
structure PlCal (P : Program) (w : World) (K : PySem.W.Frag) (mg : Str → Option Value) (base : Heap) (ci : Nat) (m : Str) (k : Nat) (os : List OT) (o1 : OT) (n : Nat) (ψ : D → List D → Option (List Nat)) : Prop where
  ex : ∃ (f : Addr) (fd : FuncData) (ps : List Str), FnOk P w K mg base (L2.CX P w) k f fd ps (spP K (.ins os) n ψ) ∧ Meth K (clsA K ci) m f ∧ Binds K fd ps []
  nf : m ∉ (clsT ci).fields
  ty : ∀ d ds p, ψ d ds = some p → otP (.ins os) p = some o1
def pfM (i : Nat) (pf : PF) (ci : Nat) (ψ : D → List D → Option (List Nat)) (fs : EL) : PF := fun δ => (plD i pf δ).bind fun q => match fs δ with
  | some (.ok ds) => if isIns ci q.2.2 then (ψ q.2.2 ds).map (q.1 ++ ·) else none
  | _ => none
def enGo (jn jt : Nat) (g : So) : Nat → List D → So
  | _, [], δ => some (.nx δ)
  | k, d :: ds, δ => match g ((δ.set jn (some (.int (k : Int)))).set jt (some d)) with
    | some (.nx δ2) => enGo jn jt g (k + 1) ds δ2
    | some (.ct δ2) => enGo jn jt g (k + 1) ds δ2
    | some (.brk δ2) => some (.nx δ2)
    | r => r
def sForE (i : Nat) (pf : PF) (jn jt : Nat) (g : So) : So := fun δ => (plD i pf δ).bind fun q => match q.2.2 with
  | .lst ds => enGo jn jt g 0 ds δ
  | _ => none
end Ev

set_option maxHeartbeats 4000000
namespace Ev
open PySem PySem.Spec PySem.Calls PyProof.Rows L2
variable [Wd]
variable {X : Cx} {c : Cp} {F G H F' G' H' : Hp} {σ : L2.St} {δ : Env} {a b e tg ob : Expr} {es : List Expr} {pos p : Pos} {x : Str} {ta tb tc ty rt : Ty} {oa o1 oc o o' oj : OT} {os : List OT} {fa fb fc : Env → Option R} {fs : Env → Option RL} {st : Stmt} {ss : List Stmt} {i : Nat} {pf : PF} {A : List Addr}
section
variable {prog : Program} {w : World} {A : Around} {E : Value → Shared → Prop} {s : Shared} {K : PySem.W.Frag} {x C f : Addr} {ox : Obj} {odd : Option Obj}
end
section
variable {CX : CXT} {k : Nat} {f C : Addr} {fd : FuncData} {ps : List Str} {sp : Sp} {E : L2.St → XK} {te : TE}
end
def fLenO (ci : Nat) (φ : Fn) (fa : EF) : EF := fun δ => bnd (fa δ) fun d => if isIns ci d then (match φ [d] with
  | some (.ok (.int n)) => if 0 ≤ n ∧ n < 1000000000 then some (.ok (.int n)) else none
  | _ => none) else none
end Ev

set_option maxHeartbeats 4000000
namespace Ev
open PySem PySem.Spec PySem.Calls PyProof.Rows L2
variable [Wd]
variable {X : Cx} {c : Cp} {F G H F' G' H' : Hp} {σ : L2.St} {δ : Env} {a b e tg ob : Expr} {es : List Expr} {pos p : Pos} {x : Str} {ta tb tc ty rt : Ty} {oa o1 oc o o' oj : OT} {os : List OT} {fa fb fc : Env → Option R} {fs : Env → Option RL} {st : Stmt} {ss : List Stmt} {i : Nat} {pf : PF} {A : List Addr}
def mCall1 (φ : Fn) (fm : EM) (fs : EL) : EM := fun δ => match fm δ with
  | some (.ok d δ1) => bndXL (fs δ1) δ1 fun ds => match φ (d :: ds) with
    | some (.ok r) => some (.ok r δ1)
    | some (.ex x) => some (.ex x δ1)
    | none => none
  | some (.ex x δ1) => some (.ex x δ1)
  | none => none
end Ev

set_option maxHeartbeats 4000000
namespace Ev
open PySem PySem.Spec PySem.Calls PyProof.Rows L2
variable [Wd]
variable {X : Cx} {c : Cp} {F G H F' G' H' : Hp} {σ : L2.St} {δ : Env} {a b e tg ob : Expr} {es : List Expr} {pos p : Pos} {x : Str} {ta tb tc ty rt : Ty} {oa o1 oc o o' oj : OT} {os : List OT} {fa fb fc : Env → Option R} {fs : Env → Option RL} {st : Stmt} {ss : List Stmt} {i : Nat} {pf : PF} {A : List Addr}
structure PlCalX (P : Program) (w : World) (K : PySem.W.Frag) (mg : Str → Option Value) (base : Heap) (ci : Nat) (m : Str) (k : Nat) (os : List OT) (o1 : OT) (n : Nat) (φ : Fn) (ψ : D → List D → Option (List Nat)) : Prop where
  ex : ∃ (f : Addr) (fd : FuncData) (ps : List Str), FnOk P w K mg base (L2.CX P w) k f fd ps (spE K ⟨.ins os :: List.replicate n .fz, .vw o1⟩ φ) ∧ FnOk P w K mg base (L2.CX P w) k f fd ps (spP K (.ins os) n ψ) ∧ Meth K (clsA K ci) m f ∧ Binds K fd ps []
  nf : m ∉ (clsT ci).fields
  ty : ∀ d ds p, ψ d ds = some p → otP (.ins os) p = some o1
inductive PX where
  | ok (p : List Nat) | ex (x : Xd)
abbrev PFX := Env → Option PX
def tPlX (c : Cp) (i : Nat) (pf : PFX) : TE := fun σ H Q => ∃ F δ, c.E F H σ δ ∧ match pf δ with
  | some (.ok p) => ∀ r w F' H', Up F H F' H' → σ[i]? = some (some r) → At H' p r w → Q w H'
  | some (.ex x) => Bad c F H σ x
  | none => False
def pfMX (i : Nat) (pf : PF) (ci : Nat) (φ : Fn) (ψ : D → List D → Option (List Nat)) (fs : EL) : PFX := fun δ => (plD i pf δ).bind fun q => match fs δ with
  | some (.ok ds) => if isIns ci q.2.2 then (match φ (q.2.2 :: ds) with
    | some (.ex x) => some (.ex x)
    | _ => (ψ q.2.2 ds).map fun p => .ok (q.1 ++ p)) else none
  | _ => none
structure PlX (X : Cx) (c : Cp) (e : Expr) (i : Nat) (o o' : OT) (pf : PFX) : Prop where
  pe : PE X e (tPlX c i pf)
  ty : ∀ {F H : Hp} {σ : L2.St} {δ : Env} {p : List Nat}, c.E F H σ δ → pf δ = some (.ok p) → otP o p = some o'
def sAlX (j : Nat) (pf : PFX) : So := fun δ => match pf δ with
  | some (.ok q) => some (.nx (δ.set j (some (.lck (pthI q)))))
  | some (.ex x) => some (.ex x δ)
  | none => none
end Ev

set_option maxHeartbeats 4000000
namespace Ev
open PySem PySem.Spec PySem.Calls PyProof.Rows L2
variable [Wd]
abbrev Cla5 := Nat × Value × (Addr → Value → Option Addr → TS)
def wQ (K : PySem.W.Frag) (Wout : WX) (D : Ends) : List Cla5 → WX
  | [] => Wout
  | (i, cv, ts) :: r => fun cls d σ H => ∃ b, PySem.W.exmOne K cls cv = some b ∧ (b = true → ∀ a, H a = none → ts a cls d (endN i D) (σ.set i (some (.ref a))) H) ∧ (b = false → wQ K Wout D r cls d σ H)
inductive HdsQ (X : Cx) : List ExceptHandler → List Cla5 → Prop
  | nil : HdsQ X [] []
  | cons {i : Nat} {n xh : Str} {cv : Value} {ts : Addr → Value → Option Addr → TS} {b₀ : Stmt} {suite : List Stmt} {np pos' : Pos} {hds : List ExceptHandler} {l : List Cla5} (hi : X.N[i]? = some n) (hln : X.env.kindOf n = some .local) (hc : Names X xh cv)
      (hsu : ∀ (a : Addr) (oe : Obj) (cls : Value) (d : Option Addr) (pn : List (Addr × Obj)), Zc cls d oe → (∃ vs, oe.data = .fields vs) → PSs (X.suite a ((a, oe) :: pn)) (b₀ :: suite) (ts a cls d)) (r : HdsQ X hds l) :
      HdsQ X (.ExceptHandler (some (.Name xh np)) (some n) (b₀ :: suite) pos' :: hds) ((i, cv, ts) :: l)
variable {X : Cx} {c : Cp} {F G H F' G' H' : Hp} {σ : L2.St} {δ : Env} {a b e tg : Expr} {es : List Expr} {pos p : Pos} {x : Str} {ta tb tc ty rt : Ty} {oa ob oc o : OT} {os : List OT} {fa fb fc : Env → Option R} {fs : Env → Option RL} {st : Stmt} {ss : List Stmt} {A A' : List Addr}
/-- clauses by data: who is caught, what is done -/
abbrev Cls5 := Nat × List (Nat × Bool) × (Xd → So)
def pickQ (x : Xd) (δ : Env) : List Cls5 → Option Out
  | [] => some (.ex x δ)
  | (i, tb, h) :: r => match tb.lookup x.c with
    | some true => hndO i (h x (δ.set i (some .xv)))
    | some false => pickQ x δ r
    | none => none
def sTryQ (g : So) (cs : List Cls5) : So := fun δ => match g δ with
  | some (.ex x δ1) => pickQ x δ1 cs
  | r => r
inductive HdsT5 (X : Cx) (c : Cp) (rt : Ty) : List ExceptHandler → List Cla5 → List Cls5 → Prop
  | nil : HdsT5 X c rt [] [] []
  | cons {i : Nat} {n xh : Str} {cv : Value} {b₀ : Stmt} {suite : List Stmt} {np pos' : Pos} {hds : List ExceptHandler} {l : List Cla5} {l2 : List Cls5} {tb : List (Nat × Bool)} {h : Xd → So} (hi0 : X.N[i]? = some n) (hln : X.env.kindOf n = some .local) (hi : i < c.Ks.length) (hra : c.Ks[i]?.map Kd.ra = some false) (hc : Names X xh cv) (htb : ∀ q ∈ tb, PySem.W.exmOne c.K (.ref (He.ga c.K (excT q.1).name)) cv = some q.2)
      (hsu : ∀ (x : Xd) (a : Addr) (oe : Obj) (d : Option Addr) (pn : List (Addr × Obj)) (F0 : Hp), (x.c, true) ∈ tb → Zc (.ref (He.ga c.K (excT x.c).name)) d oe → (∃ vs, oe.data = .fields vs) → (∀ H1, XRep c.K F0 H1 x (.ref (He.ga c.K (excT x.c).name)) d) → PSs (X.suite a ((a, oe) :: pn)) (b₀ :: suite) (tS (c.hc i a F0) rt (h x)))
      (r : HdsT5 X c rt hds l l2) : HdsT5 X c rt (.ExceptHandler (some (.Name xh np)) (some n) (b₀ :: suite) pos' :: hds) ((i, cv, tsN c rt i tb h) :: l) ((i, tb, h) :: l2)
theorem HdsT5.toN : ∀ {hds : List ExceptHandler} {l : List Cla5} {l2 : List Cls5}, HdsT5 X c rt hds l l2 → HdsQ X hds l
  | _, _, _, .nil => .nil
  | _, _, _, .cons hi0 hln hi hra hc htb hsu r => .cons hi0 hln hc (fun a oe cls d pn hz hd => ⟨fun pins s σ H D I q => by
    obtain ⟨x, F0, rfl, hm, xr, q⟩ := q
    exact (hsu x a oe d pn F0 hm hz hd xr).run pins s σ H D I q⟩) r.toN
def HdsU5 (X : Cx) (c : Cp) (rt : Ty) (hds : List ExceptHandler) (l2 : List Cls5) : Prop := ∃ l, HdsT5 X c rt hds l l2
end Ev

set_option maxHeartbeats 4000000
namespace Ev
open PySem PySem.Spec PySem.Calls PyProof.Rows L2
variable [Wd]
variable {X : Cx} {c : Cp} {F G H F' G' H' : Hp} {σ : L2.St} {δ : Env} {a b e tg ob : Expr} {es : List Expr} {pos p : Pos} {x : Str} {ta tb tc ty rt : Ty} {oa o1 oc o o' oj : OT} {os : List OT} {fa fb fc : Env → Option R} {fs : Env → Option RL} {st : Stmt} {ss : List Stmt} {i : Nat} {pf : PF} {A : List Addr}
def sSetP (j i : Nat) (pf : PF) : So := fun δ => (plD i pf δ).bind fun q => some (.nx (δ.set j (some q.2.2)))
end Ev

set_option maxHeartbeats 4000000
namespace L2
open PySem PySem.Spec PyProof.Rows
variable {X : Cx}
/-- a tuple without a dict of its own -/
def TupX (H : Hp) (p : Addr) : Prop := ∃ o xs, H p = some (.frz o (.tup xs)) ∧ Obj.dict o = none
def tBMI (K : PySem.W.Frag) (rT rL : V → List V → Hp → VK → Prop) (to : TE) (t : TA) : TE := fun σ H Q => to σ H fun x H1 =>
  ((∃ p, x = .ref p ∧ TupX H1 p) ∧ t σ H1 fun xs H2 => rT x xs H2 Q) ∨ ((∃ p xs, x = .ref p ∧ SqL K H1 p xs) ∧ t σ H1 fun xs H2 => rL x xs H2 Q)
theorem pe_bmI {o e : Expr} {es : List Expr} {to : TE} {t : TA} {name : Str} {apos cpos : Pos} {idT idL : String} {rT rL : V → List V → Hp → VK → Prop} (slotT : Slot "tuple" name idT) (htyT : typeOf (.builtin idT) = pure (.type "method_descriptor")) (hmT : MtR X idT rT)
    (slotL : Slot "list" name idL) (htyL : typeOf (.builtin idL) = pure (.type "method_descriptor")) (hmL : MtR X idL rL) (ho : PE X o to) (ha : PA X (e :: es) t)
    (hbase : attributeBase o name X.env (eval o X.env) = eval o X.env)
    (hfew : ((backTo cpos (starEach (e :: es) X.env)).all (fun x => !x.1) && (backToKw cpos (keywordEach [] X.env)).all (fun x => x.1.isSome)
      && decide ((e :: es).length + ([] : List Keyword).length + (if ([] : List Keyword).isEmpty then 0 else 1) < 30)) = true)
    (hline : (apos.endLine == cpos.line) = true) (hs : starEach (e :: es) X.env = (false, eval e X.env) :: starEach es X.env) (hplain : (backTo cpos (starEach es X.env)).any (·.1) = false) :
    PE X (.Call (.Attribute o name apos) (e :: es) [] cpos) (tBMI X.K rT rL to t) := by
  refine ⟨fun pins s σ H Q I h => ?_⟩
  refine wpAny_Call_method_late hbase hfew hline rfl (thn (ho.run pins s σ H _ I h) fun v s1 ⟨x, H1, I1, r1, ty⟩ => ?_)
  rcases ty with ⟨⟨p, rfl, o, xs, hq, hd⟩, q1⟩ | ⟨⟨p, xs, rfl, hq⟩, q1⟩
  · cases r1
    obtain ⟨hob, _, its, _, o2, hob2, hc, _⟩ := (show ObjOk X.prog X.w H1 s1.heap p (.frz o (.tup xs)) from I1.hok p _ hq)
    rw [hob] at hob2
    cases hob2
    have h1 : s1.TypeIs (.ref p) "tuple" := ⟨o, hob, hc⟩
    have h2 : ∀ a, Value.ref p = .ref a → ∃ ob, s1.heap.get? a = some ob ∧ ob.dict = none := fun a e2 => by
      cases e2
      exact ⟨o, hob, hd⟩
    refine ⟨"tuple", idT, PySem.F.plainAttrs_tuple, slotT, htyT, h1, h2, ?_⟩
    have hA := ha.run cpos pins s1 σ H1 _ I1 q1
    rw [hs] at hA ⊢
    refine Calls.callWith_builtin (by show (false || (backTo cpos (starEach es X.env)).any (·.1)) = false; rw [hplain] <;> rfl) (Calls.evalArgs_plain ?_)
    exact thn hA fun us s2 ⟨vs, H2, I2, r2, q2⟩ => hmT pins s2 σ H2 (.ref p) vs _ us Q I2 rfl r2 q2
  · obtain ⟨h1, h2⟩ := tyV_is (T := "list") I1 r1 (.inl ⟨rfl, xs, hq⟩)
    refine ⟨"list", idL, PySem.F.plainAttrs_list, slotL, htyL, h1, h2, ?_⟩
    have hA := ha.run cpos pins s1 σ H1 _ I1 q1
    rw [hs] at hA ⊢
    refine Calls.callWith_builtin (by show (false || (backTo cpos (starEach es X.env)).any (·.1)) = false; rw [hplain] <;> rfl) (Calls.evalArgs_plain ?_)
    exact thn hA fun us s2 ⟨vs, H2, I2, r2, q2⟩ => hmL pins s2 σ H2 (.ref p) vs v us Q I2 r1 r2 q2
end L2
namespace Ev
open PySem PySem.Spec PyProof.Rows L2
variable [Wd]
variable {X : Cx} {c : Cp} {F G H F' G' H' : Hp} {σ : L2.St} {δ : Env} {a b e tg : Expr} {es : List Expr} {pos p : Pos} {x : Str} {ta tb tc ty rt : Ty} {oa ob oc o o' oj : OT} {os : List OT} {fa fb fc : Env → Option R} {fs : Env → Option RL} {st : Stmt} {ss : List Stmt} {i : Nat}
def unS : List D → Option (List Str)
  | [] => some []
  | .str z :: l => (unS l).map (z :: ·)
  | _ => none
def idxS (z : Str) : List Str → Option Nat
  | [] => none
  | y :: l => if y = z then some 0 else (idxS z l).map (· + 1)
theorem unS_is {K : PySem.W.Frag} : ∀ {l : List D} {ys : List Str} {vs : List V}, unS l = some ys → IsL K F l vs → vs = ys.map V.str
  | [], ys, vs, h, w => by
    cases h
    simp only [IsL] at w
    rw [w]
    rfl
  | .str z :: l, ys, vs, h, w => by
    simp only [unS] at h
    cases e : unS l with
    | none => rw [e] at h; cases h
    | some zs =>
      rw [e] at h
      cases h
      simp only [IsL] at w
      obtain ⟨v, r, rfl, i1, i2⟩ := w
      simp only [Is] at i1
      rw [unS_is e i2, i1.1]
      rfl
  | .int _ :: _, ys, vs, h, w => by cases h
  | .bl _ :: _, ys, vs, h, w => by cases h
  | .non :: _, ys, vs, h, w => by cases h
  | .lst _ :: _, ys, vs, h, w => by cases h
  | .tup _ :: _, ys, vs, h, w => by cases h
  | .dic _ _ :: _, ys, vs, h, w => by cases h
  | .ins _ _ :: _, ys, vs, h, w => by cases h
  | .dct _ _ :: _, ys, vs, h, w => by cases h
  | .lck _ :: _, ys, vs, h, w => by cases h
  | .cl _ :: _, ys, vs, h, w => by cases h
  | .xv :: _, ys, vs, h, w => by cases h
theorem idxS_ok {z : Str} : ∀ {l : List Str} {j : Nat}, idxS z l = some j → l[j]? = some z ∧ ∀ m, m < j → l[m]? ≠ some z
  | y :: l, j, h => by
    simp only [idxS] at h
    split at h
    · rename_i e
      cases h
      exact ⟨by rw [e]; rfl, fun m hm => absurd hm (Nat.not_lt_zero _)⟩
    · rename_i e
      cases q : idxS z l with
      | none => rw [q] at h; cases h
      | some k =>
        rw [q] at h
        cases h
        obtain ⟨h1, h2⟩ := idxS_ok q
        refine ⟨h1, fun m hm => ?_⟩
        cases m with
        | zero => intro z2; exact e (Option.some.inj z2)
        | succ m => exact h2 m (Nat.lt_of_succ_lt_succ hm)
def idxD (l : List D) : List D → Option D
  | [.str z] => (unS l).bind fun ys => (idxS z ys).map fun j => .int (j : Int)
  | _ => none
def fTix (fa : EF) (fs : EL) : EF := fun δ => bnd (fa δ) fun x => match x with
  | .tup l => (match unS l with | some _ => bndL (fs δ) fun ds => okO (idxD l ds) | none => none)
  | .lst l => bndL (fs δ) fun ds => okO (idxD l ds)
  | _ => none
theorem e_tidx {apos cpos : Pos} (hK : X.K = c.K) (ha : PE X a (tV c ta fa)) (ca : coe ta .bw = true) (hb : PA X [e] (tL c [.fz] fs)) (hbase : attributeBase a "index" X.env (eval a X.env) = eval a X.env)
    (hfew : ((backTo cpos (starEach [e] X.env)).all (fun x => !x.1) && (backToKw cpos (keywordEach [] X.env)).all (fun x => x.1.isSome)
      && decide ([e].length + ([] : List Keyword).length + (if ([] : List Keyword).isEmpty then 0 else 1) < 30)) = true)
    (hline : (apos.endLine == cpos.line) = true) (hs : starEach [e] X.env = (false, eval e X.env) :: starEach [] X.env) (hplain : (backTo cpos (starEach [] X.env)).any (·.1) = false) :
    PE X (.Call (.Attribute a "index" apos) [e] [] cpos) (tV c (.vw .fz) (fTix fa fs)) := by
  refine PE.imp (pe_bmI PySem.F.slot_tuple_index PySem.F.type_tuple_index mt_tup_index PySem.F.slot_list_index PySem.F.type_list_index mt_index ha hb hbase hfew hline hs hplain) fun σ H Q h => ?_
  obtain ⟨F, δ, E, h⟩ := h
  refine tV.goV ca E h fun dx x F1 H1 u1 E1 ⟨A, hx⟩ h1 => ?_
  have key : ∀ {l : List D} {vs : List V} {ds : List D} {ws : List V} {d : D} {F2 H2 : Hp}, IsL c.K F1 l vs → ViewL c.K F2 H2 [.fz] ds ws → idxD l ds = some d →
      ∃ (ys : List Str) (z : Str) (j : Nat), vs = ys.map V.str ∧ ws = [.str z] ∧ ys[j]? = some z ∧ (∀ m, m < j → ys[m]? ≠ some z) ∧ d = .int (j : Int) := fun {l vs ds ws d F2 H2} hi w e2 => by
    obtain ⟨dy, y, B, rfl, rfl, hy⟩ := view1 w
    cases dy with
    | str z =>
      simp only [idxD] at e2
      cases e3 : unS l with
      | none => rw [e3] at e2; cases e2
      | some ys =>
        rw [e3] at e2
        simp only [Option.bind_some] at e2
        cases e4 : idxS z ys with
        | none => rw [e4] at e2; cases e2
        | some j =>
          rw [e4] at e2
          cases e2
          obtain ⟨k1, k2⟩ := idxS_ok e4
          have hyz := hy.is
          simp only [Is] at hyz
          exact ⟨ys, z, j, unS_is e3 hi, by rw [hyz.1], k1, k2, rfl⟩
    | _ => cases e2
  cases dx with
  | tup l =>
    obtain ⟨p, vs, rfl, hp, hi, _⟩ := hx.tup u1.fh
    have ex : unS l ≠ none → TupX H1 p := fun ne => by
      rcases hp with ⟨o, h, hd⟩ | ⟨h, hn⟩
      · exact ⟨o, vs, h, hd⟩
      · cases e3 : unS l with
        | none => exact (ne e3).elim
        | some ys =>
          rw [unS_is e3 hi] at hn
          simp [noStr] at hn
    have h1 : Gv c (.vw .fz) F1 H1 σ Q (match unS l with | some _ => bndL (fs δ) fun ds => okO (idxD l ds) | none => none) := h1
    cases e9 : unS l with
    | none => rw [e9] at h1; exact h1.elim
    | some ys0 =>
    rw [e9] at h1
    refine .inl ⟨⟨p, rfl, ex (by rw [e9]; simp)⟩, tL.goV E1 h1 fun ds ws F2 H2 u2 E2 w h2 => ?_⟩
    obtain ⟨d, e2, q⟩ := h2.okT
    obtain ⟨ys, z, j, hvs, rfl, k1, k2, rfl⟩ := key hi w e2
    subst hvs
    exact ⟨p, ys, z, j, rfl, rfl, by rw [hK]; exact (hp.mono u2.hh).sq, k1, k2, q _ F2 H2 (Up.refl E2.fh) ⟨[], Own.of_is (by simp only [Is])⟩⟩
  | lst l =>
    obtain ⟨p, vs, rfl, hp, hi⟩ := hx.lstF rfl u1.fh
    refine .inr ⟨⟨p, vs, rfl, SqL.of hp⟩, tL.goV E1 h1 fun ds ws F2 H2 u2 E2 w h2 => ?_⟩
    obtain ⟨d, e2, q⟩ := h2.okT
    obtain ⟨ys, z, j, hvs, rfl, k1, k2, rfl⟩ := key hi w e2
    subst hvs
    refine ⟨p, ys.map V.str, .str z, j, .str z, rfl, rfl, by rw [hK]; exact SqL.of (u2.hh _ _ hp), rfl, flat_strs ys, by rw [List.getElem?_map, k1]; rfl, ?_, ?_, q _ F2 H2 (Up.refl E2.fh) ⟨[], Own.of_is (by simp only [Is])⟩⟩
    · show (z == z) = true
      exact beq_self_eq_true z
    · intro m z' hm hz'
      rw [List.getElem?_map, Option.map_eq_some_iff] at hz'
      obtain ⟨y, hy, rfl⟩ := hz'
      show (y == z) = false
      exact beq_eq_false_iff_ne.mpr fun e => k2 m hm (e ▸ hy)
  | _ => exact h1.elim
def maxOf : Int → List Int → Int
  | a, [] => a
  | a, b :: l => maxOf (if b > a then b else a) l
def maxLD : List D → Option D
  | [.lst ds] => (intsOf ds).bind fun ns => match ns with
    | [] => none
    | a :: l => some (.int (maxOf a l))
  | _ => none
def sAlt (fc : EF) (i : Nat) (fa : EF) (g1 g2 : So) : So := fun δ => bndSB (fc δ) δ fun b => if b then bndS (fa δ) δ fun d => unsO i (g2 (δ.set i (some d))) else g1 δ
theorem ss_alt {p' q' : Pos} {g1 g2 : So} (n : Lo X.N X.env.scope i x) (hk : c.Ks[i]? = some (.ow o)) (hf : X.fn x = true ∨ X.env.scope.names.lookup x = some .local) (hc : PT X e (tT c fc)) (ha : PE X a (tV c ta fa)) (ca : coe ta .fz = true) (hs : swapsWith a (some (.Name x p')) pos.line X.env = pure false)
    (h1 : PSs X ss (tS c rt g1)) (h2 : PSs X ss (tS (c.fz i) rt g2)) : PSs X (.If e [.Assign [.Name x p'] a pos] [] q' :: ss) (tS c rt (sAlt fc i fa g1 g2)) := by
  have hr : PSs X ss (fun D σ H => tS c rt g1 D σ H ∨ tS (c.fz i) rt g2 D σ H) := ⟨fun pins s σ H D I q => q.elim (h1.run pins s σ H D I) (h2.run pins s σ H D I)⟩
  refine PSs.imp (pss_cons (ps_if hc (pss_cons (ps_set n.nd n.n n.l ha hs hf) pss_nil) pss_nil) hr) fun D σ H h => ?_
  obtain ⟨F, δ, E, h⟩ := h
  refine tT.goS E h fun b F1 H1 u1 E1 h1 => ?_
  cases b with
  | false => exact .inl ⟨F1, δ, E1, h1⟩
  | true =>
    have h1 : Gs c rt F1 D (bndS (fa δ) δ fun d => unsO i (g2 (δ.set i (some d)))) := h1
    refine ⟨F1, δ, E1, ?_⟩
    cases e1 : fa δ with
    | none => rw [e1] at h1; exact h1.elim
    | some r =>
      rw [e1] at h1
      cases r with
      | ex z => exact Gs.bad h1 E1
      | ok d =>
        intro v F2 H2 u2 hv
        obtain ⟨F3, u3, s3, A, ow⟩ := hv.coe u2 ca
        have E3 := E1.up u3
        have hi : i < c.Ks.length := (List.getElem?_eq_some_iff.mp hk).1
        obtain ⟨F4, sF, E4⟩ := EnvOk.fzTo (EnvOk.unset E3 i) hk
        have E5 : (c.fz i).E F4 H2 (σ.set i (some v)) ((δ.set i none).set i (some d)) := EnvOk.setVe E4 (by rw [List.getElem?_set_self hi]) ((ow.is).mono sF)
        rw [List.set_set] at E5
        refine .inr ⟨F4, δ.set i (some d), E5, ?_⟩
        have h1 : Gs c rt F1 D (unsO i (g2 (δ.set i (some d)))) := h1
        have h4 := Gs.up h1 (u3.ff.trans sF)
        cases e : g2 (δ.set i (some d)) with
        | none => rw [e] at h4; exact h4
        | some r =>
          rw [e] at h4
          cases r with
          | nx δ => exact fun σ F2 H2 s2 E2 => h4 σ F2 H2 s2 (EnvOk.fzBack E2)
          | brk δ => exact fun σ F2 H2 s2 E2 => h4 σ F2 H2 s2 (EnvOk.fzBack E2)
          | ct δ => exact fun σ F2 H2 s2 E2 => h4 σ F2 H2 s2 (EnvOk.fzBack E2)
          | ret d δ => exact fun v σ F2 H2 E2 p => h4 v σ F2 H2 (EnvOk.fzBack E2) p
          | ex x δ => exact fun cls u dx σ F2 H2 r s2 E2 xr => h4 cls u dx σ F2 H2 r s2 (EnvOk.fzBack E2) xr
end Ev

set_option maxHeartbeats 4000000
namespace Ev
open PySem PySem.Spec PyProof.Rows L2
variable [Wd]
variable {X : Cx} {c : Cp} {F G H F' G' H' : Hp} {σ : L2.St} {δ : Env} {a b e tg : Expr} {es : List Expr} {pos p : Pos} {x : Str} {ta tb tc ty rt : Ty} {oa ob oc o o' oj : OT} {os : List OT} {fa fb fc : Env → Option R} {fs : Env → Option RL} {st : Stmt} {ss : List Stmt} {i : Nat}
/-- the dict at q with its keys (data, at K and H) -/
structure DnAt (K : PySem.W.Frag) (H : Hp) (q : Addr) (ks : List D) (kvs : List NE) : Prop where
  at_ : ∃ ob, H q = some (dnO q ob kvs)
  ke : ks.map nkT = kvs.map fun z => some z.1
  ki : IsL K H ks (kvs.map fun z => .ref z.2.1)
def rInQ (K : PySem.W.Frag) (neg : Bool) : R2 := fun x y H Q => ∃ q ks kvs d k, y = .ref q ∧ DnAt K H q ks kvs ∧ Is K H d x ∧ nkT d = some k ∧ Q (.bl (if neg then !hasN k ks else hasN k ks)) H
def rIxQ (K : PySem.W.Frag) : R2 := fun x y H Q => ∃ q ks kvs d k pr, x = .ref q ∧ DnAt K H q ks kvs ∧ Is K H d y ∧ nkT d = some k ∧ atN kvs k = some pr ∧ Q pr.2 H
/-- what a borrowed, owned or frozen dict of this kind is -/
theorem Own.dct {K : PySem.W.Frag} {ks vs : List D} {v : V} {A : List Addr} (h : Own K F H o (.dct ks vs) v A) (s : Same F H) : ∃ q kvs, v = .ref q ∧ DnAt K H q ks kvs ∧ IsL K F vs (kvs.map fun z => z.2.2) := by
  have fz : Is K F (.dct ks vs) v → ∃ q kvs, v = .ref q ∧ DnAt K H q ks kvs ∧ IsL K F vs (kvs.map fun z => z.2.2) := fun h => by
    simp only [Is] at h
    obtain ⟨q, ob, kvs, e, h1, h2, h3, h4⟩ := h
    exact ⟨q, kvs, e, ⟨⟨ob, s _ _ h1⟩, h2, h3.mono s⟩, h4⟩
  cases o with
  | fz => exact fz h.is
  | bw =>
    simp only [Own] at h
    rcases h with ⟨_, h⟩ | ⟨ds', q, vs', e1, _⟩ | ⟨ks', ds', q, kvs, e1, _⟩ | ⟨ks', ds', q, ob, kvs, e1, e2, h1, h2, h3, h4, _⟩
    · exact fz h
    · cases e1
    · cases e1
    · cases e1
      exact ⟨q, kvs, e2, ⟨⟨ob, h1⟩, h2, h3.mono s⟩, h4⟩
  | dct =>
    simp only [Own] at h
    obtain ⟨q, ob, kvs, e, h1, h2, h3, h4, _⟩ := h
    exact ⟨q, kvs, e, ⟨⟨ob, h1⟩, h2, h3.mono s⟩, h4⟩
  | lst _ => simp [Own] at h
  | dic => simp [Own] at h
  | ins _ => simp [Own] at h
  | lsh _ => simp [Own] at h
def inQ (neg : Bool) (x y : D) : Option Bool := match y with
  | .dct ks _ => (nkT x).map fun k => if neg then !hasN k ks else hasN k ks
  | _ => none
def ixQ (x y : D) : Option D := match x with
  | .dct ks vs => (nkT y).bind fun k => lookN k ks vs
  | _ => none
def fIxQ (fa fb : EF) : EF := fun δ => bnd (fa δ) fun x => bnd (fb δ) fun y => okO (ixQ x y)
def lenQ : List D → Option D
  | [.dct ks _] => some (.int ks.length)
  | _ => none
def NPut (K : PySem.W.Frag) (H : Hp) (q : Addr) (y v : V) (R : Hp → Prop) : Prop := ∃ ks kvs d k b, DnAt K H q ks kvs ∧ Is K H d y ∧ nkT d = some k ∧ y = .ref b ∧ kvs.length < sizeLine ∧ ∀ ob, R (upd H q (dnO q ob (putN kvs k b v)))
def dctI (δ : Env) (i : Nat) : Option (List D × List D) := match δ[i]? with
  | some (some (.dct ks vs)) => some (ks, vs)
  | _ => none
def sNput (i : Nat) (fk fv : EF) : So := fun δ => bndS (fv δ) δ fun v => (dctI δ i).bind fun q => bndS (fk δ) δ fun y => (nkT y).bind fun k => if q.1.length < sizeLine then some (.nx (δ.set i (some (.dct (putNk y k q.1) (putNv k v q.1 q.2))))) else none
end Ev

set_option maxHeartbeats 4000000
namespace Ev
open PySem PySem.Spec PyProof.Rows L2
variable [Wd]
variable {X : Cx} {c : Cp} {F G H F' G' H' : Hp} {σ : L2.St} {δ : Env} {a b e tg : Expr} {es : List Expr} {pos p : Pos} {x : Str} {ta tb tc ty rt : Ty} {oa ob oc o o' oj : OT} {os : List OT} {fa fb fc : Env → Option R} {fs : Env → Option RL} {st : Stmt} {ss : List Stmt} {i : Nat}
def dctAt (δ : Env) (i ci j : Nat) : Option (List D × List D × List D) := (insAt δ i ci).bind fun ds => match ds[j]? with
  | some (.dct ks vs) => some (ds, ks, vs)
  | _ => none
def sFnput (i ci j : Nat) (fk fv : EF) : So := fun δ => bndS (fv δ) δ fun v => (dctAt δ i ci j).bind fun q => bndS (fk δ) δ fun y => (nkT y).bind fun k => if q.2.1.length < sizeLine then some (.nx (δ.set i (some (.ins ci (q.1.set j (.dct (putNk y k q.2.1) (putNv k v q.2.1 q.2.2))))))) else none
def rPopQ (K : PySem.W.Frag) : V → List V → Hp → VK → Prop := fun x xs H Q => ∃ q y ks kvs d k pr, x = .ref q ∧ xs = [y] ∧ DnAt K H q ks kvs ∧ Is K H d y ∧ nkT d = some k ∧ atN kvs k = some pr ∧ ∀ ob, Q pr.2 (upd H q (dnO q ob (dropN kvs k)))
theorem tL.goS {D : Ends} {Q1 : List V → Hp → Prop} {k : List Ev.D → Option Out} (E : c.E F H σ δ) (h : Gs c rt F D (bndSL (fs δ) δ k))
    (hk : ∀ ds vs F1 H1, Up F H F1 H1 → c.E F1 H1 σ δ → ViewL c.K F1 H1 os ds vs → Gs c rt F1 D (k ds) → Q1 vs H1) : tL c os fs σ H Q1 := by
  refine ⟨F, δ, E, ?_⟩
  cases e : fs δ with
  | none => rw [e] at h; exact h.elim
  | some r =>
    rw [e] at h
    cases r with
    | ex x => exact Gs.bad h E
    | ok ds => exact fun vs F1 H1 u w => hk ds vs F1 H1 u (E.up u) w (Gs.up h u.ff)
def sFpopQ (i ci j : Nat) (t : Tg) (fs : EL) : So := fun δ => (dctAt δ i ci j).bind fun q => bndSL (fs δ) δ fun ys => match ys with
  | [y] => (nkT y).bind fun k => (lookN k q.2.1 q.2.2).bind fun d => (bindT t d (δ.set i (some (.ins ci (q.1.set j (.dct (dropNk k q.2.1) (dropNv k q.2.1 q.2.2))))))).map .nx
  | _ => none
def ItQ (q : Addr) (ob : Obj) (kvs : List NE) : It :=
  ⟨fun i H => H q = some (dnO q ob kvs) ∧ i < kvs.length, fun i H v H' => H' = H ∧ ∃ z, kvs[i]? = some z ∧ v = .ref z.2.1, fun i H => H q = some (dnO q ob kvs) ∧ kvs.length ≤ i⟩
def keysQ (d : D) : Option (List D) := match d with
  | .dct ks _ => some ks
  | _ => none
def iKeyQ (fa : EF) : EL := fun δ => bndI (fa δ) fun d => okL (keysQ d)
end Ev

set_option maxHeartbeats 4000000
namespace Z
open PySem PySem.Spec PyProof.Rows L2 Ev
variable [Wd]
structure Fx (w : World) (K : PySem.W.Frag) (mg : Str → Option Value) : Prop where
  b_len : mg "len" = none
  b_int : mg "int" = none
  b_abs : mg "abs" = none
  b_range : mg "range" = none
  b_isinstance : mg "isinstance" = none
  b_bool : mg "bool" = none
  b_str : mg "str" = none
  b_tuple : mg "tuple" = none
  b_list : mg "list" = none
  b_zip : mg "zip" = none
abbrev S_longer_rows : Scope := defScope (top 1)
abbrev N_longer_rows : List Str := ["rows", "locks", "pairs", "longer", "row", "lock"]
abbrev K_longer_rows : List Kd := [.ve .fz, .ve .fz, .ve .bw, .ow (.lst .fz), .ve .fz, .ve .fz]
theorem sc_longer_rows : FnScope N_longer_rows ["rows", "locks", "pairs"] S_longer_rows := ⟨rfl, rfl, rfl, by decide +kernel, rfl, by decide +kernel, by decide +kernel⟩
theorem nm_longer_rows_0 : Nm N_longer_rows S_longer_rows 0 "rows" := nm_by (by kernel_rfl)
theorem nm_longer_rows_1 : Nm N_longer_rows S_longer_rows 1 "locks" := nm_by (by kernel_rfl)
theorem nm_longer_rows_2 : Nm N_longer_rows S_longer_rows 2 "pairs" := nm_by (by kernel_rfl)
theorem nm_longer_rows_3 : Nm N_longer_rows S_longer_rows 3 "longer" := nm_by (by kernel_rfl)
theorem lo_longer_rows_3 : Lo N_longer_rows S_longer_rows 3 "longer" := lo_by (by kernel_rfl)
theorem nm_longer_rows_4 : Nm N_longer_rows S_longer_rows 4 "row" := nm_by (by kernel_rfl)
theorem lo_longer_rows_4 : Lo N_longer_rows S_longer_rows 4 "row" := lo_by (by kernel_rfl)
theorem nm_longer_rows_5 : Nm N_longer_rows S_longer_rows 5 "lock" := nm_by (by kernel_rfl)
theorem lo_longer_rows_5 : Lo N_longer_rows S_longer_rows 5 "lock" := lo_by (by kernel_rfl)
def g_longer_rows : So := (sSeq (sSet 3 (fLst lNil))
  (sSeq (sFor (.nm 4) (iVal (evVar 0)) (sSeq (sFor (.nm 5) (iVal (fSl (evVar 1) (some (fBin addD (fTix (evVar 1) (lCons (fIx (evVar 4) (fC (.int 0))) lNil)) (fC (.int 1)))) none)) (sSeq (sIf (fAnd (fCmp (inN true) (evVar 5) (evVar 4)) (fCmp (inN false) (fTup (lCons (fIx (evVar 4) (fC (.int (-1)))) (lCons (evVar 5) lNil))) (evVar 2))) (sSeq (sApp 3 (fTupF (lStar (evVar 4) (lCons (evVar 5) lNil))))
  sNx) sNx)
  sNx))
  sNx))
  (sSeq (sRetOw 3)
  sNx)))
abbrev sg_longer_rows : Sig := ⟨[.fz, .fz, .bw], .fr (.lst .fz)⟩
def φ_longer_rows : Fn := defF (.fr (.lst .fz)) 6 g_longer_rows
theorem body_longer_rows {P : Program} {w : World} {K : PySem.W.Frag} {mg : Str → Option Value} {base : Heap} {f : Addr} (T : Fx w K mg) : BodyOk P w K mg base N_longer_rows "longer_rows" S_longer_rows f 0 K_longer_rows (.fr (.lst .fz)) (defBody (top 1)) g_longer_rows := by
  intro cdv A outer s H E c hr hK hKs tk
  obtain ⟨K', Ks', F0, G, W⟩ := c
  change K' = K at hK
  subst hK
  change Ks' = _ at hKs
  subst hKs
  have hun := hr.un
  have hu1 : (A.deeper (envOfC "longer_rows" S_longer_rows s.heap.objs.size f cdv)).units + 1 < cLine := by omega
  have hu64 : (A.deeper (envOfC "longer_rows" S_longer_rows s.heap.objs.size f cdv)).units + 64 < cLine := by omega
  have hu65 : (A.deeper (envOfC "longer_rows" S_longer_rows s.heap.objs.size f cdv)).units + 65 < cLine := by omega
  refine ss_cons' ?_ ?_
  · refine e_own' (i := 3) lo_longer_rows_3 (by rfl) ?_ (by exact .inl rfl) (by rfl)
    refine s_lst' (os := []) ?_ (by simp) (by decide)
    exact a_nil'
  refine ss_cons' ?_ ?_
  · refine st_for' (gm := .fz) (t := (.nm 4)) (by exact passes_of rfl) (by rfl) ?_ ?_ ?_ (by nofun) (by intro _; rfl)
    · refine i_val' (o := .fz) (by rfl) ?_ (by rfl) (by rfl)
      refine e_var (i := 0) (k := .ve .fz) nm_longer_rows_0 (by rfl)
    · refine e_nm (i := 4) lo_longer_rows_4 (by rfl) (by exact .inl rfl)
    refine ss_cons' ?_ ?_
    · refine st_for' (gm := .fz) (t := (.nm 5)) (by exact passes_of rfl) (by rfl) ?_ ?_ ?_ (by nofun) (by intro _; rfl)
      · refine i_val' (o := .fz) (by rfl) ?_ (by rfl) (by rfl)
        refine s_sl' (o := .fz) (pl := (some (.vw .fz, (fBin addD (fTix (evVar 1) (lCons (fIx (evVar 4) (fC (.int 0))) lNil)) (fC (.int 1)))))) (pu := none) (by rfl) (by rfl) ?_ ?_ ?_ (by rfl) (fun _ h => by cases h; rfl) (fun _ h => nomatch h)
        · refine e_var (i := 1) (k := .ve .fz) nm_longer_rows_1 (by rfl)
        · refine PO_of ?_
          refine s_bin' (ta := .vw .fz) (tb := .vw .fz) o_add ?_ ?_ (by rfl) (by rfl)
          · refine e_tidx (ta := .vw .fz) (by rfl) ?_ (by rfl) ?_ (by rfl) (by rfl) (by rfl) (by rfl) (by rfl)
            · refine e_var (i := 1) (k := .ve .fz) nm_longer_rows_1 (by rfl)
            refine a_cons' (o := .fz) (ta := .vw .fz) ?_ ?_ (by rfl) (by rfl)
            · refine s_ix' (o := .fz) (tb := .vw .fz) ?_ ?_ (by rfl) (by intro _ _; rfl) (by intro _ _; rfl) hu1 (by rfl) (by rfl)
              · refine e_var (i := 4) (k := .ve .fz) nm_longer_rows_4 (by rfl)
              exact e_int
            exact a_nil'
          exact e_int
        refine PO_of (by trivial)
      · refine e_nm (i := 5) lo_longer_rows_5 (by rfl) (by exact .inl rfl)
      refine ss_cons' ?_ ?_
      · refine st_if' ?_ ?_ ?_
        · refine PW.pt ?_
          refine w_and' ?_ ?_
          · refine t_in' (neg := true) (ta := .vw .fz) (tb := .vw .fz) (by rfl) hu65 (by rfl) ?_ ?_ (by rfl) (by rfl) (by rfl)
            · refine e_var (i := 5) (k := .ve .fz) nm_longer_rows_5 (by rfl)
            refine e_var (i := 4) (k := .ve .fz) nm_longer_rows_4 (by rfl)
          refine w_one ?_
          refine t_in' (neg := false) (ta := .vw .fz) (tb := .vw .bw) (by rfl) hu65 (by rfl) ?_ ?_ (by rfl) (by rfl) (by rfl)
          · refine s_tup' (os := [.fz, .fz]) ?_ (by simp) (by decide)
            refine a_cons' (o := .fz) (ta := .vw .fz) ?_ ?_ (by rfl) (by rfl)
            · refine s_ix' (o := .fz) (tb := .vw .fz) ?_ ?_ (by rfl) (by intro _ _; rfl) (by intro _ _; rfl) hu1 (by rfl) (by rfl)
              · refine e_var (i := 4) (k := .ve .fz) nm_longer_rows_4 (by rfl)
              exact e_neg
            refine a_cons' (o := .fz) (ta := .vw .fz) ?_ ?_ (by rfl) (by rfl)
            · refine e_var (i := 5) (k := .ve .fz) nm_longer_rows_5 (by rfl)
            exact a_nil'
          refine e_var (i := 2) (k := .ve .bw) nm_longer_rows_2 (by rfl)
        · refine ss_cons' ?_ ?_
          · refine st_append' (ta := .vw .fz) (i := 3) (by rfl) nm_longer_rows_3 (by rfl) ?_ (by rfl) (by rfl) (by rfl) (by rfl) (by rfl) (by rfl) (by rfl)
            refine s_tupF ?_
            refine f_star (ta := .vw .fz) (by rfl) ?_ ?_ (by rfl) (by rfl)
            · refine e_var (i := 4) (k := .ve .fz) nm_longer_rows_4 (by rfl)
            refine f_cons (ta := .vw .fz) ?_ ?_ (by rfl) (by rfl)
            · refine e_var (i := 5) (k := .ve .fz) nm_longer_rows_5 (by rfl)
            exact f_nil
          exact ss_nil'
        exact ss_nil'
      exact ss_nil'
    exact ss_nil'
  refine ss_cons' ?_ ?_
  · refine st_retOw' (i := 3) nm_longer_rows_3 (by rfl)
  exact ss_nil'
theorem ok_longer_rows {P : Program} {w : World} {K : PySem.W.Frag} {mg : Str → Option Value} {base : Heap} {f : Addr} {fd : FuncData} (T : Fx w K mg) (D : FunD K "longer_rows" "longer_rows" (defArgs (top 1)) (defBody (top 1)) (defScope (top 1)) [] [] f fd) (hm : mg "longer_rows" = some (.ref f)) : Cal P w K mg base "longer_rows" 1 sg_longer_rows φ_longer_rows := ⟨⟨f, fd, ["rows", "locks", "pairs"], def_ok D sc_longer_rows rfl rfl (by decide) rfl (body_longer_rows T), hm, D.kp, D.bindsN fun _ _ _ _ _ _ us hl => match us, hl with | [_, _, _], _ => rfl⟩⟩
abbrev S_shortest_lock_cycle : Scope := defScope (top 2)
abbrev N_shortest_lock_cycle : List Str := ["locks", "pairs", "rows", "row", "lock"]
abbrev K_shortest_lock_cycle : List Kd := [.ve .fz, .ve .bw, .ve .fz, .ve .fz, .ve .fz]
theorem sc_shortest_lock_cycle : FnScope N_shortest_lock_cycle ["locks", "pairs"] S_shortest_lock_cycle := ⟨rfl, rfl, rfl, by decide +kernel, rfl, by decide +kernel, by decide +kernel⟩
theorem nd_shortest_lock_cycle : N_shortest_lock_cycle.Nodup := sc_shortest_lock_cycle.nd
theorem nm_shortest_lock_cycle_0 : Nm N_shortest_lock_cycle S_shortest_lock_cycle 0 "locks" := nm_by (by kernel_rfl)
theorem nm_shortest_lock_cycle_1 : Nm N_shortest_lock_cycle S_shortest_lock_cycle 1 "pairs" := nm_by (by kernel_rfl)
theorem nm_shortest_lock_cycle_2 : Nm N_shortest_lock_cycle S_shortest_lock_cycle 2 "rows" := nm_by (by kernel_rfl)
theorem lo_shortest_lock_cycle_2 : Lo N_shortest_lock_cycle S_shortest_lock_cycle 2 "rows" := lo_by (by kernel_rfl)
theorem nm_shortest_lock_cycle_3 : Nm N_shortest_lock_cycle S_shortest_lock_cycle 3 "row" := nm_by (by kernel_rfl)
theorem lo_shortest_lock_cycle_3 : Lo N_shortest_lock_cycle S_shortest_lock_cycle 3 "row" := lo_by (by kernel_rfl)
def g_shortest_lock_cycle : So := (sSeq (sSet 2 (fCall φ_longer_rows (lCons (lcF (.nm 4) none (fTup (lCons (evVar 4) lNil)) (iVal (evVar 0)) [4]) (lCons (evVar 0) (lCons (evVar 1) lNil)))))
  (sSeq (sWh 40 (fCmp (op pGt) (fBi lenD (lCons (evVar 2) lNil)) (fC (.int 0))) (sSeq (sFor (.nm 3) (iVal (evVar 2)) (sSeq (sIf (fCmp (inN false) (fTup (lCons (fIx (evVar 3) (fC (.int (-1)))) (lCons (fIx (evVar 3) (fC (.int 0))) lNil))) (evVar 1)) (sSeq (sRet (evVar 3))
  sNx) sNx)
  sNx))
  (sSeq (sSet 2 (fCall φ_longer_rows (lCons (evVar 2) (lCons (evVar 0) (lCons (evVar 1) lNil)))))
  sNx)))
  (sSeq (sRet (fTup lNil))
  sNx)))
abbrev sg_shortest_lock_cycle : Sig := ⟨[.fz, .bw], .vw .fz⟩
def φ_shortest_lock_cycle : Fn := defF (.vw .fz) 5 g_shortest_lock_cycle
theorem body_shortest_lock_cycle {P : Program} {w : World} {K : PySem.W.Frag} {mg : Str → Option Value} {base : Heap} {f : Addr} (T : Fx w K mg) (C_longer_rows : Cal P w K mg base "longer_rows" 1 sg_longer_rows φ_longer_rows) : BodyOk P w K mg base N_shortest_lock_cycle "shortest_lock_cycle" S_shortest_lock_cycle f 1 K_shortest_lock_cycle (.vw .fz) (defBody (top 2)) g_shortest_lock_cycle := by
  intro cdv A outer s H E c hr hK hKs tk
  obtain ⟨K', Ks', F0, G, W⟩ := c
  change K' = K at hK
  subst hK
  change Ks' = _ at hKs
  subst hKs
  have hun := hr.un
  have hu1 : (A.deeper (envOfC "shortest_lock_cycle" S_shortest_lock_cycle s.heap.objs.size f cdv)).units + 1 < cLine := by omega
  have hu64 : (A.deeper (envOfC "shortest_lock_cycle" S_shortest_lock_cycle s.heap.objs.size f cdv)).units + 64 < cLine := by omega
  have hu65 : (A.deeper (envOfC "shortest_lock_cycle" S_shortest_lock_cycle s.heap.objs.size f cdv)).units + 65 < cLine := by omega
  refine ss_cons' ?_ ?_
  · refine e_set' (ta := .vw .fz) (i := 2) lo_shortest_lock_cycle_2 (by rfl) ?_ (by rfl) (by exact .inl rfl) (by rfl)
    refine s_fz (ta := .fr (.lst .fz)) ?_ (by rfl)
    refine e_call' C_longer_rows hr (by decide) (by rfl) (gl_by (by kernel_rfl)) tk ?_ (by decide +kernel) (by rfl) (by rfl) (by rfl)
    refine a_cons' (o := .fz) (ta := .fr (.lst .fz)) ?_ ?_ (by rfl) (by rfl)
    · refine e_lc' (ety := .vw .fz) (gm := .fz) (own := [("lock", 4)]) (t := (.nm 4)) (tst := none) (by rfl) nd_shortest_lock_cycle ?_ (blkOk_by (own := [("lock", 4)]) (by kernel_rfl)) ?_ ?_ ?_ (by rfl) (by decide) (by intro _; rfl) (by rfl)
      · refine i_val' (o := .fz) (by rfl) ?_ (by rfl) (by rfl)
        refine e_var (i := 0) (k := .ve .fz) nm_shortest_lock_cycle_0 (by rfl)
      · intro _ _ _ _ _
        refine e_nm (i := 4) (lo_by (by kernel_rfl)) (by rfl) (.inr (by kernel_rfl))
      · intro _ _ _ _ _
        exact p_nil
      intro _ _ _ _ _
      refine s_tup' (os := [.fz]) ?_ (by simp) (by decide)
      refine a_cons' (o := .fz) (ta := .vw .fz) ?_ ?_ (by rfl) (by rfl)
      · refine e_var (i := 4) (k := .ve .fz) (nm_by (by kernel_rfl)) (by rfl)
      exact a_nil'
    refine a_cons' (o := .fz) (ta := .vw .fz) ?_ ?_ (by rfl) (by rfl)
    · refine e_var (i := 0) (k := .ve .fz) nm_shortest_lock_cycle_0 (by rfl)
    refine a_cons' (o := .bw) (ta := .vw .bw) ?_ ?_ (by rfl) (by rfl)
    · refine e_var (i := 1) (k := .ve .bw) nm_shortest_lock_cycle_1 (by rfl)
    exact a_nil'
  refine ss_cons' ?_ ?_
  · refine st_while' (n := 40) (by exact passes_of rfl) ?_ ?_
    · refine t_cmp' (ta := .vw .fz) (tb := .vw .fz) (o_cmpI op_gt) ?_ ?_ (by rfl) (by rfl) (by rfl)
      · refine e_bi ⟨gl_by (by kernel_rfl), T.b_len⟩ (b_len (by rfl)) ?_ (by rfl) (by decide +kernel) (by decide +kernel) (by rfl) (by rfl)
        refine a_cons' (o := .bw) (ta := .vw .fz) ?_ ?_ (by rfl) (by rfl)
        · refine e_var (i := 2) (k := .ve .fz) nm_shortest_lock_cycle_2 (by rfl)
        exact a_nil'
      exact e_int
    refine ss_cons' ?_ ?_
    · refine st_for' (gm := .fz) (t := (.nm 3)) (by exact passes_of rfl) (by rfl) ?_ ?_ ?_ (by nofun) (by intro _; rfl)
      · refine i_val' (o := .fz) (by rfl) ?_ (by rfl) (by rfl)
        refine e_var (i := 2) (k := .ve .fz) nm_shortest_lock_cycle_2 (by rfl)
      · refine e_nm (i := 3) lo_shortest_lock_cycle_3 (by rfl) (by exact .inl rfl)
      refine ss_cons' ?_ ?_
      · refine st_if' ?_ ?_ ?_
        · refine t_in' (neg := false) (ta := .vw .fz) (tb := .vw .bw) (by rfl) hu65 (by rfl) ?_ ?_ (by rfl) (by rfl) (by rfl)
          · refine s_tup' (os := [.fz, .fz]) ?_ (by simp) (by decide)
            refine a_cons' (o := .fz) (ta := .vw .fz) ?_ ?_ (by rfl) (by rfl)
            · refine s_ix' (o := .fz) (tb := .vw .fz) ?_ ?_ (by rfl) (by intro _ _; rfl) (by intro _ _; rfl) hu1 (by rfl) (by rfl)
              · refine e_var (i := 3) (k := .ve .fz) nm_shortest_lock_cycle_3 (by rfl)
              exact e_neg
            refine a_cons' (o := .fz) (ta := .vw .fz) ?_ ?_ (by rfl) (by rfl)
            · refine s_ix' (o := .fz) (tb := .vw .fz) ?_ ?_ (by rfl) (by intro _ _; rfl) (by intro _ _; rfl) hu1 (by rfl) (by rfl)
              · refine e_var (i := 3) (k := .ve .fz) nm_shortest_lock_cycle_3 (by rfl)
              exact e_int
            exact a_nil'
          refine e_var (i := 1) (k := .ve .bw) nm_shortest_lock_cycle_1 (by rfl)
        · refine ss_cons' ?_ ?_
          · refine st_ret' (ta := .vw .fz) ?_ (by rfl)
            refine e_var (i := 3) (k := .ve .fz) nm_shortest_lock_cycle_3 (by rfl)
          exact ss_nil'
        exact ss_nil'
      exact ss_nil'
    refine ss_cons' ?_ ?_
    · refine e_set' (ta := .vw .fz) (i := 2) lo_shortest_lock_cycle_2 (by rfl) ?_ (by rfl) (by exact .inl rfl) (by rfl)
      refine s_fz (ta := .fr (.lst .fz)) ?_ (by rfl)
      refine e_call' C_longer_rows hr (by decide) (by rfl) (gl_by (by kernel_rfl)) tk ?_ (by decide +kernel) (by rfl) (by rfl) (by rfl)
      refine a_cons' (o := .fz) (ta := .vw .fz) ?_ ?_ (by rfl) (by rfl)
      · refine e_var (i := 2) (k := .ve .fz) nm_shortest_lock_cycle_2 (by rfl)
      refine a_cons' (o := .fz) (ta := .vw .fz) ?_ ?_ (by rfl) (by rfl)
      · refine e_var (i := 0) (k := .ve .fz) nm_shortest_lock_cycle_0 (by rfl)
      refine a_cons' (o := .bw) (ta := .vw .bw) ?_ ?_ (by rfl) (by rfl)
      · refine e_var (i := 1) (k := .ve .bw) nm_shortest_lock_cycle_1 (by rfl)
      exact a_nil'
    exact ss_nil'
  refine ss_cons' ?_ ?_
  · refine st_ret' (ta := .vw .fz) ?_ (by rfl)
    refine s_tup' (os := []) ?_ (by simp) (by decide)
    exact a_nil'
  exact ss_nil'
theorem ok_shortest_lock_cycle {P : Program} {w : World} {K : PySem.W.Frag} {mg : Str → Option Value} {base : Heap} {f : Addr} {fd : FuncData} (T : Fx w K mg) (C_longer_rows : Cal P w K mg base "longer_rows" 1 sg_longer_rows φ_longer_rows) (D : FunD K "shortest_lock_cycle" "shortest_lock_cycle" (defArgs (top 2)) (defBody (top 2)) (defScope (top 2)) [] [] f fd) (hm : mg "shortest_lock_cycle" = some (.ref f)) : Cal P w K mg base "shortest_lock_cycle" 2 sg_shortest_lock_cycle φ_shortest_lock_cycle := ⟨⟨f, fd, ["locks", "pairs"], def_ok D sc_shortest_lock_cycle rfl rfl (by decide) rfl (body_shortest_lock_cycle T C_longer_rows), hm, D.kp, D.bindsN fun _ _ _ _ _ _ us hl => match us, hl with | [_, _], _ => rfl⟩⟩
abbrev S_law_numbers : Scope := defScope (top 4)
abbrev N_law_numbers : List Str := ["script", "at", "many", "cell", "skip", "size", "found", "k", "mixed"]
abbrev K_law_numbers : List Kd := [.ve .fz, .ve .fz, .ve .fz, .ve .fz, .ve .fz, .ve .fz, .ow (.lst .fz), .ve .fz, .ve .fz]
theorem sc_law_numbers : FnScope N_law_numbers ["script", "at", "many"] S_law_numbers := ⟨rfl, rfl, rfl, by decide +kernel, rfl, by decide +kernel, by decide +kernel⟩
theorem nm_law_numbers_0 : Nm N_law_numbers S_law_numbers 0 "script" := nm_by (by kernel_rfl)
theorem nm_law_numbers_1 : Nm N_law_numbers S_law_numbers 1 "at" := nm_by (by kernel_rfl)
theorem nm_law_numbers_2 : Nm N_law_numbers S_law_numbers 2 "many" := nm_by (by kernel_rfl)
theorem nm_law_numbers_3 : Nm N_law_numbers S_law_numbers 3 "cell" := nm_by (by kernel_rfl)
theorem lo_law_numbers_3 : Lo N_law_numbers S_law_numbers 3 "cell" := lo_by (by kernel_rfl)
theorem nm_law_numbers_4 : Nm N_law_numbers S_law_numbers 4 "skip" := nm_by (by kernel_rfl)
theorem lo_law_numbers_4 : Lo N_law_numbers S_law_numbers 4 "skip" := lo_by (by kernel_rfl)
theorem nm_law_numbers_5 : Nm N_law_numbers S_law_numbers 5 "size" := nm_by (by kernel_rfl)
theorem lo_law_numbers_5 : Lo N_law_numbers S_law_numbers 5 "size" := lo_by (by kernel_rfl)
theorem nm_law_numbers_6 : Nm N_law_numbers S_law_numbers 6 "found" := nm_by (by kernel_rfl)
theorem lo_law_numbers_6 : Lo N_law_numbers S_law_numbers 6 "found" := lo_by (by kernel_rfl)
theorem nm_law_numbers_7 : Nm N_law_numbers S_law_numbers 7 "k" := nm_by (by kernel_rfl)
theorem lo_law_numbers_7 : Lo N_law_numbers S_law_numbers 7 "k" := lo_by (by kernel_rfl)
theorem nm_law_numbers_8 : Nm N_law_numbers S_law_numbers 8 "mixed" := nm_by (by kernel_rfl)
theorem lo_law_numbers_8 : Lo N_law_numbers S_law_numbers 8 "mixed" := lo_by (by kernel_rfl)
def g_law_numbers : So := (sSeq (sSet 3 (fC (.int 0)))
  (sSeq (sSet 4 (fC (.int 0)))
  (sSeq (sIf (fCmp (op pLt) (evVar 1) (fBi lenD (lCons (evVar 0) lNil))) (sSeq (sSet 3 (fIx (evVar 0) (evVar 1)))
  sNx) (sSeq (sIf (fAnd (fCmp (op pGt) (fBi lenD (lCons (evVar 0) lNil)) (fC (.int 0))) (fCmp (op pLt) (fBi absD (lCons (fIx (evVar 0) (fBin modD (fBi intD (lCons (evVar 1) lNil)) (fBi lenD (lCons (evVar 0) lNil)))) lNil)) (fBin powD (fC (.int 10)) (fC (.int 18))))) (sSeq (sSet 3 (fIx (evVar 0) (fBin modD (fBi intD (lCons (evVar 1) lNil)) (fBi lenD (lCons (evVar 0) lNil)))))
  (sSeq (sSet 4 (fBin mulD (fC (.int 60)) (evVar 1)))
  sNx)) sNx)
  sNx))
  (sSeq (sSet 5 (fBin addD (fBi absD (lCons (evVar 3) lNil)) (fBi intD (lCons (fCmp (op pLt) (evVar 3) (fC (.int 0))) lNil))))
  (sSeq (sSet 6 (fLst lNil))
  (sSeq (sIf (fCmp (op pLt) (evVar 5) (fBin powD (fC (.int 10)) (fC (.int 18)))) (sSeq (sFor (.nm 7) (iRng1 (evVar 2)) (sSeq (sSet 8 (fBin modD (fBi intD (lCons (fBin mulD (evVar 5) (fBin addD (fC (.int 48271)) (fBin mulD (fC (.int 69621)) (fBin addD (evVar 7) (evVar 4))))) lNil)) (fC (.int 2147483647))))
  (sSeq (sApp 6 (fBin modD (fBi intD (lCons (fBin mulD (fBin mulD (evVar 8) (evVar 8)) (fC (.int 16807))) lNil)) (fC (.int 2147483629))))
  sNx)))
  (sSeq (sRetOw 6)
  sNx)) sNx)
  (sSeq (sFor (.nm 7) (iRng1 (evVar 2)) (sSeq (sApp 6 (fBin modD (fBi intD (lCons (evVar 5) lNil)) (fC (.int 100))))
  (sSeq (sSet 5 (fBin divD (evVar 5) (fC (.int 100))))
  sNx)))
  (sSeq (sRetOw 6)
  sNx))))))))
abbrev sg_law_numbers : Sig := ⟨[.fz, .fz, .fz], .fr (.lst .fz)⟩
def φ_law_numbers : Fn := defF (.fr (.lst .fz)) 9 g_law_numbers
theorem body_law_numbers {P : Program} {w : World} {K : PySem.W.Frag} {mg : Str → Option Value} {base : Heap} {f : Addr} (T : Fx w K mg) : BodyOk P w K mg base N_law_numbers "_law_numbers" S_law_numbers f 0 K_law_numbers (.fr (.lst .fz)) (defBody (top 4)) g_law_numbers := by
  intro cdv A outer s H E c hr hK hKs tk
  obtain ⟨K', Ks', F0, G, W⟩ := c
  change K' = K at hK
  subst hK
  change Ks' = _ at hKs
  subst hKs
  have hun := hr.un
  have hu1 : (A.deeper (envOfC "_law_numbers" S_law_numbers s.heap.objs.size f cdv)).units + 1 < cLine := by omega
  have hu64 : (A.deeper (envOfC "_law_numbers" S_law_numbers s.heap.objs.size f cdv)).units + 64 < cLine := by omega
  have hu65 : (A.deeper (envOfC "_law_numbers" S_law_numbers s.heap.objs.size f cdv)).units + 65 < cLine := by omega
  refine ss_cons' ?_ ?_
  · refine e_set' (ta := .vw .fz) (i := 3) lo_law_numbers_3 (by rfl) ?_ (by rfl) (by exact .inl rfl) (by rfl)
    exact e_int
  refine ss_cons' ?_ ?_
  · refine e_set' (ta := .vw .fz) (i := 4) lo_law_numbers_4 (by rfl) ?_ (by rfl) (by exact .inl rfl) (by rfl)
    exact e_int
  refine ss_cons' ?_ ?_
  · refine st_if' ?_ ?_ ?_
    · refine t_cmp' (ta := .vw .fz) (tb := .vw .fz) (o_cmpI op_lt) ?_ ?_ (by rfl) (by rfl) (by rfl)
      · refine e_var (i := 1) (k := .ve .fz) nm_law_numbers_1 (by rfl)
      refine e_bi ⟨gl_by (by kernel_rfl), T.b_len⟩ (b_len (by rfl)) ?_ (by rfl) (by decide +kernel) (by decide +kernel) (by rfl) (by rfl)
      refine a_cons' (o := .bw) (ta := .vw .fz) ?_ ?_ (by rfl) (by rfl)
      · refine e_var (i := 0) (k := .ve .fz) nm_law_numbers_0 (by rfl)
      exact a_nil'
    · refine ss_cons' ?_ ?_
      · refine e_set' (ta := .vw .fz) (i := 3) lo_law_numbers_3 (by rfl) ?_ (by rfl) (by exact .inl rfl) (by rfl)
        refine s_ix' (o := .fz) (tb := .vw .fz) ?_ ?_ (by rfl) (by intro _ _; rfl) (by intro _ _; rfl) hu1 (by rfl) (by rfl)
        · refine e_var (i := 0) (k := .ve .fz) nm_law_numbers_0 (by rfl)
        refine e_var (i := 1) (k := .ve .fz) nm_law_numbers_1 (by rfl)
      exact ss_nil'
    refine ss_cons' ?_ ?_
    · refine st_if' ?_ ?_ ?_
      · refine PW.pt ?_
        refine w_and' ?_ ?_
        · refine t_cmp' (ta := .vw .fz) (tb := .vw .fz) (o_cmpI op_gt) ?_ ?_ (by rfl) (by rfl) (by rfl)
          · refine e_bi ⟨gl_by (by kernel_rfl), T.b_len⟩ (b_len (by rfl)) ?_ (by rfl) (by decide +kernel) (by decide +kernel) (by rfl) (by rfl)
            refine a_cons' (o := .bw) (ta := .vw .fz) ?_ ?_ (by rfl) (by rfl)
            · refine e_var (i := 0) (k := .ve .fz) nm_law_numbers_0 (by rfl)
            exact a_nil'
          exact e_int
        refine w_one ?_
        refine t_cmp' (ta := .vw .fz) (tb := .vw .fz) (o_cmpI op_lt) ?_ ?_ (by rfl) (by rfl) (by rfl)
        · refine e_bi ⟨gl_by (by kernel_rfl), T.b_abs⟩ (b_abs) ?_ (by rfl) (by decide +kernel) (by decide +kernel) (by rfl) (by rfl)
          refine a_cons' (o := .bw) (ta := .vw .fz) ?_ ?_ (by rfl) (by rfl)
          · refine s_ix' (o := .fz) (tb := .vw .fz) ?_ ?_ (by rfl) (by intro _ _; rfl) (by intro _ _; rfl) hu1 (by rfl) (by rfl)
            · refine e_var (i := 0) (k := .ve .fz) nm_law_numbers_0 (by rfl)
            refine s_bin' (ta := .vw .fz) (tb := .vw .fz) o_mod ?_ ?_ (by rfl) (by rfl)
            · refine e_ty ⟨gl_by (by kernel_rfl), T.b_int⟩ (b_int) ?_ (by rfl) (by decide +kernel) (by decide +kernel) (by rfl) (by rfl)
              refine a_cons' (o := .bw) (ta := .vw .fz) ?_ ?_ (by rfl) (by rfl)
              · refine e_var (i := 1) (k := .ve .fz) nm_law_numbers_1 (by rfl)
              exact a_nil'
            refine e_bi ⟨gl_by (by kernel_rfl), T.b_len⟩ (b_len (by rfl)) ?_ (by rfl) (by decide +kernel) (by decide +kernel) (by rfl) (by rfl)
            refine a_cons' (o := .bw) (ta := .vw .fz) ?_ ?_ (by rfl) (by rfl)
            · refine e_var (i := 0) (k := .ve .fz) nm_law_numbers_0 (by rfl)
            exact a_nil'
          exact a_nil'
        refine s_bin' (ta := .vw .fz) (tb := .vw .fz) o_pow ?_ ?_ (by rfl) (by rfl)
        · exact e_int
        exact e_int
      · refine ss_cons' ?_ ?_
        · refine e_set' (ta := .vw .fz) (i := 3) lo_law_numbers_3 (by rfl) ?_ (by rfl) (by exact .inl rfl) (by rfl)
          refine s_ix' (o := .fz) (tb := .vw .fz) ?_ ?_ (by rfl) (by intro _ _; rfl) (by intro _ _; rfl) hu1 (by rfl) (by rfl)
          · refine e_var (i := 0) (k := .ve .fz) nm_law_numbers_0 (by rfl)
          refine s_bin' (ta := .vw .fz) (tb := .vw .fz) o_mod ?_ ?_ (by rfl) (by rfl)
          · refine e_ty ⟨gl_by (by kernel_rfl), T.b_int⟩ (b_int) ?_ (by rfl) (by decide +kernel) (by decide +kernel) (by rfl) (by rfl)
            refine a_cons' (o := .bw) (ta := .vw .fz) ?_ ?_ (by rfl) (by rfl)
            · refine e_var (i := 1) (k := .ve .fz) nm_law_numbers_1 (by rfl)
            exact a_nil'
          refine e_bi ⟨gl_by (by kernel_rfl), T.b_len⟩ (b_len (by rfl)) ?_ (by rfl) (by decide +kernel) (by decide +kernel) (by rfl) (by rfl)
          refine a_cons' (o := .bw) (ta := .vw .fz) ?_ ?_ (by rfl) (by rfl)
          · refine e_var (i := 0) (k := .ve .fz) nm_law_numbers_0 (by rfl)
          exact a_nil'
        refine ss_cons' ?_ ?_
        · refine e_set' (ta := .vw .fz) (i := 4) lo_law_numbers_4 (by rfl) ?_ (by rfl) (by exact .inl rfl) (by rfl)
          refine s_bin' (ta := .vw .fz) (tb := .vw .fz) o_mul ?_ ?_ (by rfl) (by rfl)
          · exact e_int
          refine e_var (i := 1) (k := .ve .fz) nm_law_numbers_1 (by rfl)
        exact ss_nil'
      exact ss_nil'
    exact ss_nil'
  refine ss_cons' ?_ ?_
  · refine e_set' (ta := .vw .fz) (i := 5) lo_law_numbers_5 (by rfl) ?_ (by rfl) (by exact .inl rfl) (by rfl)
    refine s_bin' (ta := .vw .fz) (tb := .vw .fz) o_add ?_ ?_ (by rfl) (by rfl)
    · refine e_bi ⟨gl_by (by kernel_rfl), T.b_abs⟩ (b_abs) ?_ (by rfl) (by decide +kernel) (by decide +kernel) (by rfl) (by rfl)
      refine a_cons' (o := .bw) (ta := .vw .fz) ?_ ?_ (by rfl) (by rfl)
      · refine e_var (i := 3) (k := .ve .fz) nm_law_numbers_3 (by rfl)
      exact a_nil'
    refine e_ty ⟨gl_by (by kernel_rfl), T.b_int⟩ (b_int) ?_ (by rfl) (by decide +kernel) (by decide +kernel) (by rfl) (by rfl)
    refine a_cons' (o := .bw) (ta := .vw .fz) ?_ ?_ (by rfl) (by rfl)
    · refine s_cmp' (ta := .vw .fz) (tb := .vw .fz) (o_cmpI op_lt) ?_ ?_ (by rfl) (by rfl) (by rfl)
      · refine e_var (i := 3) (k := .ve .fz) nm_law_numbers_3 (by rfl)
      exact e_int
    exact a_nil'
  refine ss_cons' ?_ ?_
  · refine e_own' (i := 6) lo_law_numbers_6 (by rfl) ?_ (by exact .inl rfl) (by rfl)
    refine s_lst' (os := []) ?_ (by simp) (by decide)
    exact a_nil'
  refine ss_cons' ?_ ?_
  · refine st_if' ?_ ?_ ?_
    · refine t_cmp' (ta := .vw .fz) (tb := .vw .fz) (o_cmpI op_lt) ?_ ?_ (by rfl) (by rfl) (by rfl)
      · refine e_var (i := 5) (k := .ve .fz) nm_law_numbers_5 (by rfl)
      refine s_bin' (ta := .vw .fz) (tb := .vw .fz) o_pow ?_ ?_ (by rfl) (by rfl)
      · exact e_int
      exact e_int
    · refine ss_cons' ?_ ?_
      · refine st_for' (gm := .fz) (t := (.nm 7)) (by exact passes_of rfl) (by rfl) ?_ ?_ ?_ (by nofun) (by intro _; rfl)
        · refine i_rng1' (ta := .vw .fz) ?_ (by rfl) (gl_by (by kernel_rfl)) T.b_range (by rfl)
          refine e_var (i := 2) (k := .ve .fz) nm_law_numbers_2 (by rfl)
        · refine e_nm (i := 7) lo_law_numbers_7 (by rfl) (by exact .inl rfl)
        refine ss_cons' ?_ ?_
        · refine e_set' (ta := .vw .fz) (i := 8) lo_law_numbers_8 (by rfl) ?_ (by rfl) (by exact .inl rfl) (by rfl)
          refine s_bin' (ta := .vw .fz) (tb := .vw .fz) o_mod ?_ ?_ (by rfl) (by rfl)
          · refine e_ty ⟨gl_by (by kernel_rfl), T.b_int⟩ (b_int) ?_ (by rfl) (by decide +kernel) (by decide +kernel) (by rfl) (by rfl)
            refine a_cons' (o := .bw) (ta := .vw .fz) ?_ ?_ (by rfl) (by rfl)
            · refine s_bin' (ta := .vw .fz) (tb := .vw .fz) o_mul ?_ ?_ (by rfl) (by rfl)
              · refine e_var (i := 5) (k := .ve .fz) nm_law_numbers_5 (by rfl)
              refine s_bin' (ta := .vw .fz) (tb := .vw .fz) o_add ?_ ?_ (by rfl) (by rfl)
              · exact e_int
              refine s_bin' (ta := .vw .fz) (tb := .vw .fz) o_mul ?_ ?_ (by rfl) (by rfl)
              · exact e_int
              refine s_bin' (ta := .vw .fz) (tb := .vw .fz) o_add ?_ ?_ (by rfl) (by rfl)
              · refine e_var (i := 7) (k := .ve .fz) nm_law_numbers_7 (by rfl)
              refine e_var (i := 4) (k := .ve .fz) nm_law_numbers_4 (by rfl)
            exact a_nil'
          exact e_int
        refine ss_cons' ?_ ?_
        · refine st_append' (ta := .vw .fz) (i := 6) (by rfl) nm_law_numbers_6 (by rfl) ?_ (by rfl) (by rfl) (by rfl) (by rfl) (by rfl) (by rfl) (by rfl)
          refine s_bin' (ta := .vw .fz) (tb := .vw .fz) o_mod ?_ ?_ (by rfl) (by rfl)
          · refine e_ty ⟨gl_by (by kernel_rfl), T.b_int⟩ (b_int) ?_ (by rfl) (by decide +kernel) (by decide +kernel) (by rfl) (by rfl)
            refine a_cons' (o := .bw) (ta := .vw .fz) ?_ ?_ (by rfl) (by rfl)
            · refine s_bin' (ta := .vw .fz) (tb := .vw .fz) o_mul ?_ ?_ (by rfl) (by rfl)
              · refine s_bin' (ta := .vw .fz) (tb := .vw .fz) o_mul ?_ ?_ (by rfl) (by rfl)
                · refine e_var (i := 8) (k := .ve .fz) nm_law_numbers_8 (by rfl)
                refine e_var (i := 8) (k := .ve .fz) nm_law_numbers_8 (by rfl)
              exact e_int
            exact a_nil'
          exact e_int
        exact ss_nil'
      refine ss_cons' ?_ ?_
      · refine st_retOw' (i := 6) nm_law_numbers_6 (by rfl)
      exact ss_nil'
    exact ss_nil'
  refine ss_cons' ?_ ?_
  · refine st_for' (gm := .fz) (t := (.nm 7)) (by exact passes_of rfl) (by rfl) ?_ ?_ ?_ (by nofun) (by intro _; rfl)
    · refine i_rng1' (ta := .vw .fz) ?_ (by rfl) (gl_by (by kernel_rfl)) T.b_range (by rfl)
      refine e_var (i := 2) (k := .ve .fz) nm_law_numbers_2 (by rfl)
    · refine e_nm (i := 7) lo_law_numbers_7 (by rfl) (by exact .inl rfl)
    refine ss_cons' ?_ ?_
    · refine st_append' (ta := .vw .fz) (i := 6) (by rfl) nm_law_numbers_6 (by rfl) ?_ (by rfl) (by rfl) (by rfl) (by rfl) (by rfl) (by rfl) (by rfl)
      refine s_bin' (ta := .vw .fz) (tb := .vw .fz) o_mod ?_ ?_ (by rfl) (by rfl)
      · refine e_ty ⟨gl_by (by kernel_rfl), T.b_int⟩ (b_int) ?_ (by rfl) (by decide +kernel) (by decide +kernel) (by rfl) (by rfl)
        refine a_cons' (o := .bw) (ta := .vw .fz) ?_ ?_ (by rfl) (by rfl)
        · refine e_var (i := 5) (k := .ve .fz) nm_law_numbers_5 (by rfl)
        exact a_nil'
      exact e_int
    refine ss_cons' ?_ ?_
    · refine e_set' (ta := .vw .fz) (i := 5) lo_law_numbers_5 (by rfl) ?_ (by rfl) (by exact .inl rfl) (by rfl)
      refine s_bin' (ta := .vw .fz) (tb := .vw .fz) o_div ?_ ?_ (by rfl) (by rfl)
      · refine e_var (i := 5) (k := .ve .fz) nm_law_numbers_5 (by rfl)
      exact e_int
    exact ss_nil'
  refine ss_cons' ?_ ?_
  · refine st_retOw' (i := 6) nm_law_numbers_6 (by rfl)
  exact ss_nil'
theorem ok_law_numbers {P : Program} {w : World} {K : PySem.W.Frag} {mg : Str → Option Value} {base : Heap} {f : Addr} {fd : FuncData} (T : Fx w K mg) (D : FunD K "_law_numbers" "_law_numbers" (defArgs (top 4)) (defBody (top 4)) (defScope (top 4)) [] [] f fd) (hm : mg "_law_numbers" = some (.ref f)) : Cal P w K mg base "_law_numbers" 1 sg_law_numbers φ_law_numbers := ⟨⟨f, fd, ["script", "at", "many"], def_ok D sc_law_numbers rfl rfl (by decide) rfl (body_law_numbers T), hm, D.kp, D.bindsN fun _ _ _ _ _ _ us hl => match us, hl with | [_, _, _], _ => rfl⟩⟩
abbrev S_law_names : Scope := defScope (top 5)
abbrev N_law_names : List Str := ["start", "step", "words", "k"]
abbrev K_law_names : List Kd := [.ve .fz, .ve .fz, .ve .fz, .ve .fz]
theorem sc_law_names : FnScope N_law_names ["start", "step"] S_law_names := ⟨rfl, rfl, rfl, by decide +kernel, rfl, by decide +kernel, by decide +kernel⟩
theorem nd_law_names : N_law_names.Nodup := sc_law_names.nd
theorem lo_law_names_2 : Lo N_law_names S_law_names 2 "words" := lo_by (by kernel_rfl)
def g_law_names : So := (sSeq (sSet 2 (fLst (lCons (fC (.str "end")) (lCons (fC (.str "a")) (lCons (fC (.str "invoke")) (lCons (fC (.str "start")) (lCons (fC (.str "hook")) (lCons (fC (.str "release")) (lCons (fC (.str "callback")) (lCons (fC (.str "call")) (lCons (fC (.str "skip")) (lCons (fC (.str "baaaaaaa")) (lCons (fC (.str "acquire")) (lCons (fC (.str "return")) (lCons (fC (.str "done")) (lCons (fC (.str "entry")) lNil))))))))))))))))
  (sSeq (sRet (lcF (.nm 3) none (fIx (evVar 2) (fBin modD (fBi intD (lCons (fBin addD (evVar 0) (fBin mulD (fIx (fLst (lCons (fC (.int 1)) (lCons (fC (.int 3)) (lCons (fC (.int 5)) (lCons (fC (.int 9)) (lCons (fC (.int 11)) (lCons (fC (.int 13)) lNil))))))) (fBin modD (fBi intD (lCons (evVar 1) lNil)) (fC (.int 6)))) (evVar 3))) lNil)) (fC (.int 14)))) (iRng1 (fC (.int 14))) [3]))
  sNx))
abbrev sg_law_names : Sig := ⟨[.fz, .fz], .fr (.lst .fz)⟩
def φ_law_names : Fn := defF (.fr (.lst .fz)) 4 g_law_names
theorem body_law_names {P : Program} {w : World} {K : PySem.W.Frag} {mg : Str → Option Value} {base : Heap} {f : Addr} (T : Fx w K mg) : BodyOk P w K mg base N_law_names "_law_names" S_law_names f 0 K_law_names (.fr (.lst .fz)) (defBody (top 5)) g_law_names := by
  intro cdv A outer s H E c hr hK hKs tk
  obtain ⟨K', Ks', F0, G, W⟩ := c
  change K' = K at hK
  subst hK
  change Ks' = _ at hKs
  subst hKs
  have hun := hr.un
  have hu1 : (A.deeper (envOfC "_law_names" S_law_names s.heap.objs.size f cdv)).units + 1 < cLine := by omega
  have hu64 : (A.deeper (envOfC "_law_names" S_law_names s.heap.objs.size f cdv)).units + 64 < cLine := by omega
  have hu65 : (A.deeper (envOfC "_law_names" S_law_names s.heap.objs.size f cdv)).units + 65 < cLine := by omega
  refine ss_cons' ?_ ?_
  · refine e_set' (ta := .vw .fz) (i := 2) lo_law_names_2 (by rfl) ?_ (by rfl) (by exact .inl rfl) (by rfl)
    refine s_fz (ta := .fr (.lst .fz)) ?_ (by rfl)
    refine s_lst' (os := [.fz, .fz, .fz, .fz, .fz, .fz, .fz, .fz, .fz, .fz, .fz, .fz, .fz, .fz]) ?_ (by simp) (by decide)
    refine a_cons' (o := .fz) (ta := .vw .fz) ?_ ?_ (by rfl) (by rfl)
    · refine e_str (by decide +kernel)
    refine a_cons' (o := .fz) (ta := .vw .fz) ?_ ?_ (by rfl) (by rfl)
    · refine e_str (by decide +kernel)
    refine a_cons' (o := .fz) (ta := .vw .fz) ?_ ?_ (by rfl) (by rfl)
    · refine e_str (by decide +kernel)
    refine a_cons' (o := .fz) (ta := .vw .fz) ?_ ?_ (by rfl) (by rfl)
    · refine e_str (by decide +kernel)
    refine a_cons' (o := .fz) (ta := .vw .fz) ?_ ?_ (by rfl) (by rfl)
    · refine e_str (by decide +kernel)
    refine a_cons' (o := .fz) (ta := .vw .fz) ?_ ?_ (by rfl) (by rfl)
    · refine e_str (by decide +kernel)
    refine a_cons' (o := .fz) (ta := .vw .fz) ?_ ?_ (by rfl) (by rfl)
    · refine e_str (by decide +kernel)
    refine a_cons' (o := .fz) (ta := .vw .fz) ?_ ?_ (by rfl) (by rfl)
    · refine e_str (by decide +kernel)
    refine a_cons' (o := .fz) (ta := .vw .fz) ?_ ?_ (by rfl) (by rfl)
    · refine e_str (by decide +kernel)
    refine a_cons' (o := .fz) (ta := .vw .fz) ?_ ?_ (by rfl) (by rfl)
    · refine e_str (by decide +kernel)
    refine a_cons' (o := .fz) (ta := .vw .fz) ?_ ?_ (by rfl) (by rfl)
    · refine e_str (by decide +kernel)
    refine a_cons' (o := .fz) (ta := .vw .fz) ?_ ?_ (by rfl) (by rfl)
    · refine e_str (by decide +kernel)
    refine a_cons' (o := .fz) (ta := .vw .fz) ?_ ?_ (by rfl) (by rfl)
    · refine e_str (by decide +kernel)
    refine a_cons' (o := .fz) (ta := .vw .fz) ?_ ?_ (by rfl) (by rfl)
    · refine e_str (by decide +kernel)
    exact a_nil'
  refine ss_cons' ?_ ?_
  · refine st_retFr' (ta := .fr (.lst .fz)) ?_ (by rfl)
    refine e_lc' (ety := .vw .fz) (gm := .fz) (own := [("k", 3)]) (t := (.nm 3)) (tst := none) (by rfl) nd_law_names ?_ (blkOk_by (own := [("k", 3)]) (by kernel_rfl)) ?_ ?_ ?_ (by rfl) (by decide) (by intro _; rfl) (by rfl)
    · refine i_rng1' (ta := .vw .fz) ?_ (by rfl) (gl_by (by kernel_rfl)) T.b_range (by rfl)
      exact e_int
    · intro _ _ _ _ _
      refine e_nm (i := 3) (lo_by (by kernel_rfl)) (by rfl) (.inr (by kernel_rfl))
    · intro _ _ _ _ _
      exact p_nil
    intro _ _ _ _ _
    refine s_ix' (o := .fz) (tb := .vw .fz) ?_ ?_ (by rfl) (by intro _ _; rfl) (by intro _ _; rfl) hu1 (by rfl) (by rfl)
    · refine e_var (i := 2) (k := .ve .fz) (nm_by (by kernel_rfl)) (by rfl)
    refine s_bin' (ta := .vw .fz) (tb := .vw .fz) o_mod ?_ ?_ (by rfl) (by rfl)
    · refine e_ty ⟨gl_by (by kernel_rfl), T.b_int⟩ (b_int) ?_ (by rfl) (by decide +kernel) (by decide +kernel) (by rfl) (by rfl)
      refine a_cons' (o := .bw) (ta := .vw .fz) ?_ ?_ (by rfl) (by rfl)
      · refine s_bin' (ta := .vw .fz) (tb := .vw .fz) o_add ?_ ?_ (by rfl) (by rfl)
        · refine e_var (i := 0) (k := .ve .fz) (nm_by (by kernel_rfl)) (by rfl)
        refine s_bin' (ta := .vw .fz) (tb := .vw .fz) o_mul ?_ ?_ (by rfl) (by rfl)
        · refine s_ix' (o := .fz) (tb := .vw .fz) ?_ ?_ (by rfl) (by intro _ _; rfl) (by intro _ _; rfl) hu1 (by rfl) (by rfl)
          · refine s_fz (ta := .fr (.lst .fz)) ?_ (by rfl)
            refine s_lst' (os := [.fz, .fz, .fz, .fz, .fz, .fz]) ?_ (by simp) (by decide)
            refine a_cons' (o := .fz) (ta := .vw .fz) ?_ ?_ (by rfl) (by rfl)
            · exact e_int
            refine a_cons' (o := .fz) (ta := .vw .fz) ?_ ?_ (by rfl) (by rfl)
            · exact e_int
            refine a_cons' (o := .fz) (ta := .vw .fz) ?_ ?_ (by rfl) (by rfl)
            · exact e_int
            refine a_cons' (o := .fz) (ta := .vw .fz) ?_ ?_ (by rfl) (by rfl)
            · exact e_int
            refine a_cons' (o := .fz) (ta := .vw .fz) ?_ ?_ (by rfl) (by rfl)
            · exact e_int
            refine a_cons' (o := .fz) (ta := .vw .fz) ?_ ?_ (by rfl) (by rfl)
            · exact e_int
            exact a_nil'
          refine s_bin' (ta := .vw .fz) (tb := .vw .fz) o_mod ?_ ?_ (by rfl) (by rfl)
          · refine e_ty ⟨gl_by (by kernel_rfl), T.b_int⟩ (b_int) ?_ (by rfl) (by decide +kernel) (by decide +kernel) (by rfl) (by rfl)
            refine a_cons' (o := .bw) (ta := .vw .fz) ?_ ?_ (by rfl) (by rfl)
            · refine e_var (i := 1) (k := .ve .fz) (nm_by (by kernel_rfl)) (by rfl)
            exact a_nil'
          exact e_int
        refine e_var (i := 3) (k := .ve .fz) (nm_by (by kernel_rfl)) (by rfl)
      exact a_nil'
    exact e_int
  exact ss_nil'
theorem ok_law_names {P : Program} {w : World} {K : PySem.W.Frag} {mg : Str → Option Value} {base : Heap} {f : Addr} {fd : FuncData} (T : Fx w K mg) (D : FunD K "_law_names" "_law_names" (defArgs (top 5)) (defBody (top 5)) (defScope (top 5)) [] [] f fd) (hm : mg "_law_names" = some (.ref f)) : Cal P w K mg base "_law_names" 1 sg_law_names φ_law_names := ⟨⟨f, fd, ["start", "step"], def_ok D sc_law_names rfl rfl (by decide) rfl (body_law_names T), hm, D.kp, D.bindsN fun _ _ _ _ _ _ us hl => match us, hl with | [_, _], _ => rfl⟩⟩
abbrev S_law_leaf : Scope := defScope (top 6)
abbrev N_law_leaf : List Str := ["told", "due"]
abbrev K_law_leaf : List Kd := [.ve .fz, .ve .fz]
theorem sc_law_leaf : FnScope N_law_leaf ["told", "due"] S_law_leaf := ⟨rfl, rfl, rfl, by decide +kernel, rfl, by decide +kernel, by decide +kernel⟩
theorem nm_law_leaf_0 : Nm N_law_leaf S_law_leaf 0 "told" := nm_by (by kernel_rfl)
theorem nm_law_leaf_1 : Nm N_law_leaf S_law_leaf 1 "due" := nm_by (by kernel_rfl)
def g_law_leaf : So := (sSeq (sIf (fCmp (isN) (evVar 1) (fC .non)) (sSeq (sRet (fCmp (isN) (evVar 0) (fC .non)))
  sNx) sNx)
  (sSeq (sIf (fIsi .bool (evVar 1)) (sSeq (sRet (fAnd (fIsi .bool (evVar 0)) (fCmp (eqD) (evVar 0) (evVar 1))))
  sNx) sNx)
  (sSeq (sIf (fIsi .int (evVar 1)) (sSeq (sRet (fAnd (fIsi .int (evVar 0)) (fAnd (fNot (fIsi .bool (evVar 0))) (fCmp (eqD) (evVar 0) (evVar 1)))))
  sNx) sNx)
  (sSeq (sRet (fAnd (fIsi .str (evVar 0)) (fCmp (eqD) (evVar 0) (evVar 1))))
  sNx))))
abbrev sg_law_leaf : Sig := ⟨[.fz, .fz], .vw .fz⟩
def φ_law_leaf : Fn := defF (.vw .fz) 2 g_law_leaf
theorem body_law_leaf {P : Program} {w : World} {K : PySem.W.Frag} {mg : Str → Option Value} {base : Heap} {f : Addr} (T : Fx w K mg) : BodyOk P w K mg base N_law_leaf "_law_leaf" S_law_leaf f 0 K_law_leaf (.vw .fz) (defBody (top 6)) g_law_leaf := by
  intro cdv A outer s H E c hr hK hKs tk
  obtain ⟨K', Ks', F0, G, W⟩ := c
  change K' = K at hK
  subst hK
  change Ks' = _ at hKs
  subst hKs
  have hun := hr.un
  have hu1 : (A.deeper (envOfC "_law_leaf" S_law_leaf s.heap.objs.size f cdv)).units + 1 < cLine := by omega
  have hu64 : (A.deeper (envOfC "_law_leaf" S_law_leaf s.heap.objs.size f cdv)).units + 64 < cLine := by omega
  have hu65 : (A.deeper (envOfC "_law_leaf" S_law_leaf s.heap.objs.size f cdv)).units + 65 < cLine := by omega
  refine ss_cons' ?_ ?_
  · refine st_if' ?_ ?_ ?_
    · refine t_cmp' (ta := .vw .fz) (tb := .vw .fz) (o_is) ?_ ?_ (by rfl) (by rfl) (by rfl)
      · refine e_var (i := 1) (k := .ve .fz) nm_law_leaf_1 (by rfl)
      exact e_non
    · refine ss_cons' ?_ ?_
      · refine st_ret' (ta := .vw .fz) ?_ (by rfl)
        refine s_cmp' (ta := .vw .fz) (tb := .vw .fz) (o_is) ?_ ?_ (by rfl) (by rfl) (by rfl)
        · refine e_var (i := 0) (k := .ve .fz) nm_law_leaf_0 (by rfl)
        exact e_non
      exact ss_nil'
    exact ss_nil'
  refine ss_cons' ?_ ?_
  · refine st_if' ?_ ?_ ?_
    · refine t_val (ta := .vw .fz) ?_ (by intro _; rfl) (by rfl)
      refine e_isi (t := .bool) (ta := .vw .fz) ⟨gl_by (by kernel_rfl), T.b_isinstance⟩ ⟨gl_by (by kernel_rfl), T.b_bool⟩ (by rfl) ?_ (by rfl) (by rfl) (by decide +kernel) (by decide +kernel) (by rfl)
      refine e_var (i := 1) (k := .ve .fz) nm_law_leaf_1 (by rfl)
    · refine ss_cons' ?_ ?_
      · refine st_ret' (ta := .vw .fz) ?_ (by rfl)
        refine s_and' (ta := .vw .fz) ?_ (by rfl) ?_
        · refine e_isi (t := .bool) (ta := .vw .fz) ⟨gl_by (by kernel_rfl), T.b_isinstance⟩ ⟨gl_by (by kernel_rfl), T.b_bool⟩ (by rfl) ?_ (by rfl) (by rfl) (by decide +kernel) (by decide +kernel) (by rfl)
          refine e_var (i := 0) (k := .ve .fz) nm_law_leaf_0 (by rfl)
        refine s_one ?_
        refine s_cmp' (ta := .vw .fz) (tb := .vw .fz) (o_eq hu64 (by rfl)) ?_ ?_ (by rfl) (by rfl) (by rfl)
        · refine e_var (i := 0) (k := .ve .fz) nm_law_leaf_0 (by rfl)
        refine e_var (i := 1) (k := .ve .fz) nm_law_leaf_1 (by rfl)
      exact ss_nil'
    exact ss_nil'
  refine ss_cons' ?_ ?_
  · refine st_if' ?_ ?_ ?_
    · refine t_val (ta := .vw .fz) ?_ (by intro _; rfl) (by rfl)
      refine e_isi (t := .int) (ta := .vw .fz) ⟨gl_by (by kernel_rfl), T.b_isinstance⟩ ⟨gl_by (by kernel_rfl), T.b_int⟩ (by rfl) ?_ (by rfl) (by rfl) (by decide +kernel) (by decide +kernel) (by rfl)
      refine e_var (i := 1) (k := .ve .fz) nm_law_leaf_1 (by rfl)
    · refine ss_cons' ?_ ?_
      · refine st_ret' (ta := .vw .fz) ?_ (by rfl)
        refine s_and' (ta := .vw .fz) ?_ (by rfl) ?_
        · refine e_isi (t := .int) (ta := .vw .fz) ⟨gl_by (by kernel_rfl), T.b_isinstance⟩ ⟨gl_by (by kernel_rfl), T.b_int⟩ (by rfl) ?_ (by rfl) (by rfl) (by decide +kernel) (by decide +kernel) (by rfl)
          refine e_var (i := 0) (k := .ve .fz) nm_law_leaf_0 (by rfl)
        refine s_and' (ta := .vw .fz) ?_ (by rfl) ?_
        · refine s_not' (ta := .vw .fz) ?_ (by rfl)
          refine e_isi (t := .bool) (ta := .vw .fz) ⟨gl_by (by kernel_rfl), T.b_isinstance⟩ ⟨gl_by (by kernel_rfl), T.b_bool⟩ (by rfl) ?_ (by rfl) (by rfl) (by decide +kernel) (by decide +kernel) (by rfl)
          refine e_var (i := 0) (k := .ve .fz) nm_law_leaf_0 (by rfl)
        refine s_one ?_
        refine s_cmp' (ta := .vw .fz) (tb := .vw .fz) (o_eq hu64 (by rfl)) ?_ ?_ (by rfl) (by rfl) (by rfl)
        · refine e_var (i := 0) (k := .ve .fz) nm_law_leaf_0 (by rfl)
        refine e_var (i := 1) (k := .ve .fz) nm_law_leaf_1 (by rfl)
      exact ss_nil'
    exact ss_nil'
  refine ss_cons' ?_ ?_
  · refine st_ret' (ta := .vw .fz) ?_ (by rfl)
    refine s_and' (ta := .vw .fz) ?_ (by rfl) ?_
    · refine e_isi (t := .str) (ta := .vw .fz) ⟨gl_by (by kernel_rfl), T.b_isinstance⟩ ⟨gl_by (by kernel_rfl), T.b_str⟩ (by rfl) ?_ (by rfl) (by rfl) (by decide +kernel) (by decide +kernel) (by rfl)
      refine e_var (i := 0) (k := .ve .fz) nm_law_leaf_0 (by rfl)
    refine s_one ?_
    refine s_cmp' (ta := .vw .fz) (tb := .vw .fz) (o_eq hu64 (by rfl)) ?_ ?_ (by rfl) (by rfl) (by rfl)
    · refine e_var (i := 0) (k := .ve .fz) nm_law_leaf_0 (by rfl)
    refine e_var (i := 1) (k := .ve .fz) nm_law_leaf_1 (by rfl)
  exact ss_nil'
theorem ok_law_leaf {P : Program} {w : World} {K : PySem.W.Frag} {mg : Str → Option Value} {base : Heap} {f : Addr} {fd : FuncData} (T : Fx w K mg) (D : FunD K "_law_leaf" "_law_leaf" (defArgs (top 6)) (defBody (top 6)) (defScope (top 6)) [] [] f fd) (hm : mg "_law_leaf" = some (.ref f)) : Cal P w K mg base "_law_leaf" 1 sg_law_leaf φ_law_leaf := ⟨⟨f, fd, ["told", "due"], def_ok D sc_law_leaf rfl rfl (by decide) rfl (body_law_leaf T), hm, D.kp, D.bindsN fun _ _ _ _ _ _ us hl => match us, hl with | [_, _], _ => rfl⟩⟩
abbrev S_law_same : Scope := defScope (top 7)
abbrev N_law_same : List Str := ["told", "due", "pairs", "depth", "inner", "one", "two"]
abbrev K_law_same : List Kd := [.ve .fz, .ve .fz, .ve .fz, .ve .fz, .ow (.lst .fz), .ve .fz, .ve .fz]
theorem sc_law_same : FnScope N_law_same ["told", "due"] S_law_same := ⟨rfl, rfl, rfl, by decide +kernel, rfl, by decide +kernel, by decide +kernel⟩
theorem nm_law_same_0 : Nm N_law_same S_law_same 0 "told" := nm_by (by kernel_rfl)
theorem nm_law_same_1 : Nm N_law_same S_law_same 1 "due" := nm_by (by kernel_rfl)
theorem nm_law_same_2 : Nm N_law_same S_law_same 2 "pairs" := nm_by (by kernel_rfl)
theorem lo_law_same_2 : Lo N_law_same S_law_same 2 "pairs" := lo_by (by kernel_rfl)
theorem lo_law_same_3 : Lo N_law_same S_law_same 3 "depth" := lo_by (by kernel_rfl)
theorem nm_law_same_4 : Nm N_law_same S_law_same 4 "inner" := nm_by (by kernel_rfl)
theorem lo_law_same_4 : Lo N_law_same S_law_same 4 "inner" := lo_by (by kernel_rfl)
theorem nm_law_same_5 : Nm N_law_same S_law_same 5 "one" := nm_by (by kernel_rfl)
theorem lo_law_same_5 : Lo N_law_same S_law_same 5 "one" := lo_by (by kernel_rfl)
theorem nm_law_same_6 : Nm N_law_same S_law_same 6 "two" := nm_by (by kernel_rfl)
theorem lo_law_same_6 : Lo N_law_same S_law_same 6 "two" := lo_by (by kernel_rfl)
def g_law_same : So := (sSeq (sSet 2 (fLst (lCons (fTup (lCons (evVar 0) (lCons (evVar 1) lNil))) lNil)))
  (sSeq (sFor (.nm 3) (iRng1 (fC (.int 7))) (sSeq (sSet 4 (fLst lNil))
  (sSeq (sFor (.tp [(.nm 5), (.nm 6)]) (iVal (evVar 2)) (sSeq (sIf (fOr (fIsi .tuple (evVar 6)) (fIsi .list (evVar 6))) (sSeq (sIf (fAnd (fIsi .tuple (evVar 6)) (fNot (fIsi .tuple (evVar 5)))) (sSeq (sRet (fC (.bl false)))
  sNx) sNx)
  (sSeq (sIf (fAnd (fIsi .list (evVar 6)) (fNot (fIsi .list (evVar 5)))) (sSeq (sRet (fC (.bl false)))
  sNx) sNx)
  (sSeq (sIf (fCmp (neD) (fBi lenD (lCons (evVar 5) lNil)) (fBi lenD (lCons (evVar 6) lNil))) (sSeq (sRet (fC (.bl false)))
  sNx) sNx)
  (sSeq (sExt 4 (fLz (lCons (evVar 5) (lCons (evVar 6) lNil))))
  sNx)))) (sSeq (sIf (fNot (fCall φ_law_leaf (lCons (evVar 5) (lCons (evVar 6) lNil)))) (sSeq (sRet (fC (.bl false)))
  sNx) sNx)
  sNx))
  sNx))
  (sSeq (sSet 2 (fBi lstD (lCons (evVar 4) lNil)))
  sNx))))
  (sSeq (sRet (fCmp (eqD) (fBi lenD (lCons (evVar 2) lNil)) (fC (.int 0))))
  sNx)))
abbrev sg_law_same : Sig := ⟨[.fz, .fz], .vw .fz⟩
def φ_law_same : Fn := defF (.vw .fz) 7 g_law_same
theorem body_law_same {P : Program} {w : World} {K : PySem.W.Frag} {mg : Str → Option Value} {base : Heap} {f : Addr} (T : Fx w K mg) (C__law_leaf : Cal P w K mg base "_law_leaf" 1 sg_law_leaf φ_law_leaf) : BodyOk P w K mg base N_law_same "_law_same" S_law_same f 1 K_law_same (.vw .fz) (defBody (top 7)) g_law_same := by
  intro cdv A outer s H E c hr hK hKs tk
  obtain ⟨K', Ks', F0, G, W⟩ := c
  change K' = K at hK
  subst hK
  change Ks' = _ at hKs
  subst hKs
  have hun := hr.un
  have hu1 : (A.deeper (envOfC "_law_same" S_law_same s.heap.objs.size f cdv)).units + 1 < cLine := by omega
  have hu64 : (A.deeper (envOfC "_law_same" S_law_same s.heap.objs.size f cdv)).units + 64 < cLine := by omega
  have hu65 : (A.deeper (envOfC "_law_same" S_law_same s.heap.objs.size f cdv)).units + 65 < cLine := by omega
  refine ss_cons' ?_ ?_
  · refine e_set' (ta := .vw .fz) (i := 2) lo_law_same_2 (by rfl) ?_ (by rfl) (by exact .inl rfl) (by rfl)
    refine s_fz (ta := .fr (.lst .fz)) ?_ (by rfl)
    refine s_lst' (os := [.fz]) ?_ (by simp) (by decide)
    refine a_cons' (o := .fz) (ta := .vw .fz) ?_ ?_ (by rfl) (by rfl)
    · refine s_tup' (os := [.fz, .fz]) ?_ (by simp) (by decide)
      refine a_cons' (o := .fz) (ta := .vw .fz) ?_ ?_ (by rfl) (by rfl)
      · refine e_var (i := 0) (k := .ve .fz) nm_law_same_0 (by rfl)
      refine a_cons' (o := .fz) (ta := .vw .fz) ?_ ?_ (by rfl) (by rfl)
      · refine e_var (i := 1) (k := .ve .fz) nm_law_same_1 (by rfl)
      exact a_nil'
    exact a_nil'
  refine ss_cons' ?_ ?_
  · refine st_for' (gm := .fz) (t := (.nm 3)) (by exact passes_of rfl) (by rfl) ?_ ?_ ?_ (by nofun) (by intro _; rfl)
    · refine i_rng1' (ta := .vw .fz) ?_ (by rfl) (gl_by (by kernel_rfl)) T.b_range (by rfl)
      exact e_int
    · refine e_nm (i := 3) lo_law_same_3 (by rfl) (by exact .inl rfl)
    refine ss_cons' ?_ ?_
    · refine e_own' (i := 4) lo_law_same_4 (by rfl) ?_ (by exact .inl rfl) (by rfl)
      refine s_lst' (os := []) ?_ (by simp) (by decide)
      exact a_nil'
    refine ss_cons' ?_ ?_
    · refine st_for' (gm := .fz) (t := (.tp [(.nm 5), (.nm 6)])) (by exact passes_of rfl) (by rfl) ?_ ?_ ?_ (by nofun) (by intro _; rfl)
      · refine i_val' (o := .fz) (by rfl) ?_ (by rfl) (by rfl)
        refine e_var (i := 2) (k := .ve .fz) nm_law_same_2 (by rfl)
      · refine g_tp (by rfl) (by rfl) ?_ (by rfl) (by rfl)
        refine gs_cons ?_ ?_ (by rfl)
        · refine e_nm (i := 5) lo_law_same_5 (by rfl) (by exact .inl rfl)
        refine gs_cons ?_ ?_ (by rfl)
        · refine e_nm (i := 6) lo_law_same_6 (by rfl) (by exact .inl rfl)
        exact gs_nil
      refine ss_cons' ?_ ?_
      · refine st_if' ?_ ?_ ?_
        · refine PW.pt ?_
          refine w_or' ?_ ?_
          · refine t_val (ta := .vw .fz) ?_ (by intro _; rfl) (by rfl)
            refine e_isi (t := .tuple) (ta := .vw .fz) ⟨gl_by (by kernel_rfl), T.b_isinstance⟩ ⟨gl_by (by kernel_rfl), T.b_tuple⟩ (by rfl) ?_ (by rfl) (by rfl) (by decide +kernel) (by decide +kernel) (by rfl)
            refine e_var (i := 6) (k := .ve .fz) nm_law_same_6 (by rfl)
          refine w_one ?_
          refine t_val (ta := .vw .fz) ?_ (by intro _; rfl) (by rfl)
          refine e_isi (t := .list) (ta := .vw .fz) ⟨gl_by (by kernel_rfl), T.b_isinstance⟩ ⟨gl_by (by kernel_rfl), T.b_list⟩ (by rfl) ?_ (by rfl) (by rfl) (by decide +kernel) (by decide +kernel) (by rfl)
          refine e_var (i := 6) (k := .ve .fz) nm_law_same_6 (by rfl)
        · refine ss_cons' ?_ ?_
          · refine st_if' ?_ ?_ ?_
            · refine PW.pt ?_
              refine w_and' ?_ ?_
              · refine t_val (ta := .vw .fz) ?_ (by intro _; rfl) (by rfl)
                refine e_isi (t := .tuple) (ta := .vw .fz) ⟨gl_by (by kernel_rfl), T.b_isinstance⟩ ⟨gl_by (by kernel_rfl), T.b_tuple⟩ (by rfl) ?_ (by rfl) (by rfl) (by decide +kernel) (by decide +kernel) (by rfl)
                refine e_var (i := 6) (k := .ve .fz) nm_law_same_6 (by rfl)
              refine w_one ?_
              refine t_not' ?_
              refine t_val (ta := .vw .fz) ?_ (by intro _; rfl) (by rfl)
              refine e_isi (t := .tuple) (ta := .vw .fz) ⟨gl_by (by kernel_rfl), T.b_isinstance⟩ ⟨gl_by (by kernel_rfl), T.b_tuple⟩ (by rfl) ?_ (by rfl) (by rfl) (by decide +kernel) (by decide +kernel) (by rfl)
              refine e_var (i := 5) (k := .ve .fz) nm_law_same_5 (by rfl)
            · refine ss_cons' ?_ ?_
              · refine st_ret' (ta := .vw .fz) ?_ (by rfl)
                exact e_bl
              exact ss_nil'
            exact ss_nil'
          refine ss_cons' ?_ ?_
          · refine st_if' ?_ ?_ ?_
            · refine PW.pt ?_
              refine w_and' ?_ ?_
              · refine t_val (ta := .vw .fz) ?_ (by intro _; rfl) (by rfl)
                refine e_isi (t := .list) (ta := .vw .fz) ⟨gl_by (by kernel_rfl), T.b_isinstance⟩ ⟨gl_by (by kernel_rfl), T.b_list⟩ (by rfl) ?_ (by rfl) (by rfl) (by decide +kernel) (by decide +kernel) (by rfl)
                refine e_var (i := 6) (k := .ve .fz) nm_law_same_6 (by rfl)
              refine w_one ?_
              refine t_not' ?_
              refine t_val (ta := .vw .fz) ?_ (by intro _; rfl) (by rfl)
              refine e_isi (t := .list) (ta := .vw .fz) ⟨gl_by (by kernel_rfl), T.b_isinstance⟩ ⟨gl_by (by kernel_rfl), T.b_list⟩ (by rfl) ?_ (by rfl) (by rfl) (by decide +kernel) (by decide +kernel) (by rfl)
              refine e_var (i := 5) (k := .ve .fz) nm_law_same_5 (by rfl)
            · refine ss_cons' ?_ ?_
              · refine st_ret' (ta := .vw .fz) ?_ (by rfl)
                exact e_bl
              exact ss_nil'
            exact ss_nil'
          refine ss_cons' ?_ ?_
          · refine st_if' ?_ ?_ ?_
            · refine t_cmp' (ta := .vw .fz) (tb := .vw .fz) (o_ne hu64 (by rfl)) ?_ ?_ (by rfl) (by rfl) (by rfl)
              · refine e_bi ⟨gl_by (by kernel_rfl), T.b_len⟩ (b_len (by rfl)) ?_ (by rfl) (by decide +kernel) (by decide +kernel) (by rfl) (by rfl)
                refine a_cons' (o := .bw) (ta := .vw .fz) ?_ ?_ (by rfl) (by rfl)
                · refine e_var (i := 5) (k := .ve .fz) nm_law_same_5 (by rfl)
                exact a_nil'
              refine e_bi ⟨gl_by (by kernel_rfl), T.b_len⟩ (b_len (by rfl)) ?_ (by rfl) (by decide +kernel) (by decide +kernel) (by rfl) (by rfl)
              refine a_cons' (o := .bw) (ta := .vw .fz) ?_ ?_ (by rfl) (by rfl)
              · refine e_var (i := 6) (k := .ve .fz) nm_law_same_6 (by rfl)
              exact a_nil'
            · refine ss_cons' ?_ ?_
              · refine st_ret' (ta := .vw .fz) ?_ (by rfl)
                exact e_bl
              exact ss_nil'
            exact ss_nil'
          refine ss_cons' ?_ ?_
          · refine st_extend (ta := .vw .fz) (i := 4) (by rfl) nm_law_same_4 (by rfl) ?_ (by rfl) (by rfl) (by rfl) (by rfl) (by rfl) (by rfl) (by rfl)
            refine s_fz (ta := .fr (.lst .fz)) ?_ (by rfl)
            refine s_lz (by rfl) (by rfl) ?_ (gl_by (by kernel_rfl)) T.b_list (by decide +kernel) (gl_by (by kernel_rfl)) T.b_zip (by rfl) (by rfl) (by rfl)
            refine a_cons' (o := .fz) (ta := .vw .fz) ?_ ?_ (by rfl) (by rfl)
            · refine e_var (i := 5) (k := .ve .fz) nm_law_same_5 (by rfl)
            refine a_cons' (o := .fz) (ta := .vw .fz) ?_ ?_ (by rfl) (by rfl)
            · refine e_var (i := 6) (k := .ve .fz) nm_law_same_6 (by rfl)
            exact a_nil'
          exact ss_nil'
        refine ss_cons' ?_ ?_
        · refine st_if' ?_ ?_ ?_
          · refine t_not' ?_
            refine t_val (ta := .vw .fz) ?_ (by intro _; rfl) (by rfl)
            refine e_call' C__law_leaf hr (by decide) (by rfl) (gl_by (by kernel_rfl)) tk ?_ (by decide +kernel) (by rfl) (by rfl) (by rfl)
            refine a_cons' (o := .fz) (ta := .vw .fz) ?_ ?_ (by rfl) (by rfl)
            · refine e_var (i := 5) (k := .ve .fz) nm_law_same_5 (by rfl)
            refine a_cons' (o := .fz) (ta := .vw .fz) ?_ ?_ (by rfl) (by rfl)
            · refine e_var (i := 6) (k := .ve .fz) nm_law_same_6 (by rfl)
            exact a_nil'
          · refine ss_cons' ?_ ?_
            · refine st_ret' (ta := .vw .fz) ?_ (by rfl)
              exact e_bl
            exact ss_nil'
          exact ss_nil'
        exact ss_nil'
      exact ss_nil'
    refine ss_cons' ?_ ?_
    · refine e_set' (ta := .vw .fz) (i := 2) lo_law_same_2 (by rfl) ?_ (by rfl) (by exact .inl rfl) (by rfl)
      refine s_fz (ta := .fr (.lst .fz)) ?_ (by rfl)
      refine e_ty ⟨gl_by (by kernel_rfl), T.b_list⟩ (b_list) ?_ (by rfl) (by decide +kernel) (by decide +kernel) (by rfl) (by rfl)
      refine a_cons' (o := .bw) (ta := .vw (.lst .fz)) ?_ ?_ (by rfl) (by rfl)
      · refine e_var (i := 4) (k := .ow (.lst .fz)) nm_law_same_4 (by rfl)
      exact a_nil'
    exact ss_nil'
  refine ss_cons' ?_ ?_
  · refine st_ret' (ta := .vw .fz) ?_ (by rfl)
    refine s_cmp' (ta := .vw .fz) (tb := .vw .fz) (o_eq hu64 (by rfl)) ?_ ?_ (by rfl) (by rfl) (by rfl)
    · refine e_bi ⟨gl_by (by kernel_rfl), T.b_len⟩ (b_len (by rfl)) ?_ (by rfl) (by decide +kernel) (by decide +kernel) (by rfl) (by rfl)
      refine a_cons' (o := .bw) (ta := .vw .fz) ?_ ?_ (by rfl) (by rfl)
      · refine e_var (i := 2) (k := .ve .fz) nm_law_same_2 (by rfl)
      exact a_nil'
    exact e_int
  exact ss_nil'
theorem ok_law_same {P : Program} {w : World} {K : PySem.W.Frag} {mg : Str → Option Value} {base : Heap} {f : Addr} {fd : FuncData} (T : Fx w K mg) (C__law_leaf : Cal P w K mg base "_law_leaf" 1 sg_law_leaf φ_law_leaf) (D : FunD K "_law_same" "_law_same" (defArgs (top 7)) (defBody (top 7)) (defScope (top 7)) [] [] f fd) (hm : mg "_law_same" = some (.ref f)) : Cal P w K mg base "_law_same" 2 sg_law_same φ_law_same := ⟨⟨f, fd, ["told", "due"], def_ok D sc_law_same rfl rfl (by decide) rfl (body_law_same T C__law_leaf), hm, D.kp, D.bindsN fun _ _ _ _ _ _ us hl => match us, hl with | [_, _], _ => rfl⟩⟩
abbrev S_law_pairs : Scope := defScope (top 8)
abbrev N_law_pairs : List Str := ["script", "names", "many", "size", "draws", "found", "k", "one", "two"]
abbrev K_law_pairs : List Kd := [.ve .fz, .ve .fz, .ve .fz, .ve .fz, .ve .fz, .ow (.lst .fz), .ve .fz, .ve .fz, .ve .fz]
theorem sc_law_pairs : FnScope N_law_pairs ["script", "names", "many"] S_law_pairs := ⟨rfl, rfl, rfl, by decide +kernel, rfl, by decide +kernel, by decide +kernel⟩
theorem nm_law_pairs_0 : Nm N_law_pairs S_law_pairs 0 "script" := nm_by (by kernel_rfl)
theorem nm_law_pairs_1 : Nm N_law_pairs S_law_pairs 1 "names" := nm_by (by kernel_rfl)
theorem nm_law_pairs_2 : Nm N_law_pairs S_law_pairs 2 "many" := nm_by (by kernel_rfl)
theorem nm_law_pairs_3 : Nm N_law_pairs S_law_pairs 3 "size" := nm_by (by kernel_rfl)
theorem lo_law_pairs_3 : Lo N_law_pairs S_law_pairs 3 "size" := lo_by (by kernel_rfl)
theorem nm_law_pairs_4 : Nm N_law_pairs S_law_pairs 4 "draws" := nm_by (by kernel_rfl)
theorem lo_law_pairs_4 : Lo N_law_pairs S_law_pairs 4 "draws" := lo_by (by kernel_rfl)
theorem nm_law_pairs_5 : Nm N_law_pairs S_law_pairs 5 "found" := nm_by (by kernel_rfl)
theorem lo_law_pairs_5 : Lo N_law_pairs S_law_pairs 5 "found" := lo_by (by kernel_rfl)
theorem nm_law_pairs_6 : Nm N_law_pairs S_law_pairs 6 "k" := nm_by (by kernel_rfl)
theorem lo_law_pairs_6 : Lo N_law_pairs S_law_pairs 6 "k" := lo_by (by kernel_rfl)
theorem nm_law_pairs_7 : Nm N_law_pairs S_law_pairs 7 "one" := nm_by (by kernel_rfl)
theorem lo_law_pairs_7 : Lo N_law_pairs S_law_pairs 7 "one" := lo_by (by kernel_rfl)
theorem nm_law_pairs_8 : Nm N_law_pairs S_law_pairs 8 "two" := nm_by (by kernel_rfl)
theorem lo_law_pairs_8 : Lo N_law_pairs S_law_pairs 8 "two" := lo_by (by kernel_rfl)
def g_law_pairs : So := (sSeq (sSet 3 (fBi lenD (lCons (evVar 1) lNil)))
  (sSeq (sSet 4 (fCall φ_law_numbers (lCons (evVar 0) (lCons (fC (.int 1)) (lCons (fC (.int 32)) lNil)))))
  (sSeq (sSet 5 (fLst lNil))
  (sSeq (sIf (fCmp (op pGt) (evVar 3) (fC (.int 1))) (sSeq (sFor (.nm 6) (iRng1 (evVar 2)) (sSeq (sSet 7 (fBin modD (fBi intD (lCons (fIx (evVar 4) (fBin mulD (fC (.int 2)) (evVar 6))) lNil)) (evVar 3)))
  (sSeq (sSet 8 (fBin modD (fBi intD (lCons (fBin addD (fBin addD (evVar 7) (fC (.int 1))) (fBin modD (fBi intD (lCons (fIx (evVar 4) (fBin addD (fBin mulD (fC (.int 2)) (evVar 6)) (fC (.int 1)))) lNil)) (fBin subD (evVar 3) (fC (.int 1))))) lNil)) (evVar 3)))
  (sSeq (sApp 5 (fTup (lCons (fIx (evVar 1) (evVar 7)) (lCons (fIx (evVar 1) (evVar 8)) lNil))))
  sNx))))
  sNx) sNx)
  (sSeq (sRetOw 5)
  sNx)))))
abbrev sg_law_pairs : Sig := ⟨[.fz, .fz, .fz], .fr (.lst .fz)⟩
def φ_law_pairs : Fn := defF (.fr (.lst .fz)) 9 g_law_pairs
theorem body_law_pairs {P : Program} {w : World} {K : PySem.W.Frag} {mg : Str → Option Value} {base : Heap} {f : Addr} (T : Fx w K mg) (C__law_numbers : Cal P w K mg base "_law_numbers" 1 sg_law_numbers φ_law_numbers) : BodyOk P w K mg base N_law_pairs "_law_pairs" S_law_pairs f 1 K_law_pairs (.fr (.lst .fz)) (defBody (top 8)) g_law_pairs := by
  intro cdv A outer s H E c hr hK hKs tk
  obtain ⟨K', Ks', F0, G, W⟩ := c
  change K' = K at hK
  subst hK
  change Ks' = _ at hKs
  subst hKs
  have hun := hr.un
  have hu1 : (A.deeper (envOfC "_law_pairs" S_law_pairs s.heap.objs.size f cdv)).units + 1 < cLine := by omega
  have hu64 : (A.deeper (envOfC "_law_pairs" S_law_pairs s.heap.objs.size f cdv)).units + 64 < cLine := by omega
  have hu65 : (A.deeper (envOfC "_law_pairs" S_law_pairs s.heap.objs.size f cdv)).units + 65 < cLine := by omega
  refine ss_cons' ?_ ?_
  · refine e_set' (ta := .vw .fz) (i := 3) lo_law_pairs_3 (by rfl) ?_ (by rfl) (by exact .inl rfl) (by rfl)
    refine e_bi ⟨gl_by (by kernel_rfl), T.b_len⟩ (b_len (by rfl)) ?_ (by rfl) (by decide +kernel) (by decide +kernel) (by rfl) (by rfl)
    refine a_cons' (o := .bw) (ta := .vw .fz) ?_ ?_ (by rfl) (by rfl)
    · refine e_var (i := 1) (k := .ve .fz) nm_law_pairs_1 (by rfl)
    exact a_nil'
  refine ss_cons' ?_ ?_
  · refine e_set' (ta := .vw .fz) (i := 4) lo_law_pairs_4 (by rfl) ?_ (by rfl) (by exact .inl rfl) (by rfl)
    refine s_fz (ta := .fr (.lst .fz)) ?_ (by rfl)
    refine e_call' C__law_numbers hr (by decide) (by rfl) (gl_by (by kernel_rfl)) tk ?_ (by decide +kernel) (by rfl) (by rfl) (by rfl)
    refine a_cons' (o := .fz) (ta := .vw .fz) ?_ ?_ (by rfl) (by rfl)
    · refine e_var (i := 0) (k := .ve .fz) nm_law_pairs_0 (by rfl)
    refine a_cons' (o := .fz) (ta := .vw .fz) ?_ ?_ (by rfl) (by rfl)
    · exact e_int
    refine a_cons' (o := .fz) (ta := .vw .fz) ?_ ?_ (by rfl) (by rfl)
    · exact e_int
    exact a_nil'
  refine ss_cons' ?_ ?_
  · refine e_own' (i := 5) lo_law_pairs_5 (by rfl) ?_ (by exact .inl rfl) (by rfl)
    refine s_lst' (os := []) ?_ (by simp) (by decide)
    exact a_nil'
  refine ss_cons' ?_ ?_
  · refine st_if' ?_ ?_ ?_
    · refine t_cmp' (ta := .vw .fz) (tb := .vw .fz) (o_cmpI op_gt) ?_ ?_ (by rfl) (by rfl) (by rfl)
      · refine e_var (i := 3) (k := .ve .fz) nm_law_pairs_3 (by rfl)
      exact e_int
    · refine ss_cons' ?_ ?_
      · refine st_for' (gm := .fz) (t := (.nm 6)) (by exact passes_of rfl) (by rfl) ?_ ?_ ?_ (by nofun) (by intro _; rfl)
        · refine i_rng1' (ta := .vw .fz) ?_ (by rfl) (gl_by (by kernel_rfl)) T.b_range (by rfl)
          refine e_var (i := 2) (k := .ve .fz) nm_law_pairs_2 (by rfl)
        · refine e_nm (i := 6) lo_law_pairs_6 (by rfl) (by exact .inl rfl)
        refine ss_cons' ?_ ?_
        · refine e_set' (ta := .vw .fz) (i := 7) lo_law_pairs_7 (by rfl) ?_ (by rfl) (by exact .inl rfl) (by rfl)
          refine s_bin' (ta := .vw .fz) (tb := .vw .fz) o_mod ?_ ?_ (by rfl) (by rfl)
          · refine e_ty ⟨gl_by (by kernel_rfl), T.b_int⟩ (b_int) ?_ (by rfl) (by decide +kernel) (by decide +kernel) (by rfl) (by rfl)
            refine a_cons' (o := .bw) (ta := .vw .fz) ?_ ?_ (by rfl) (by rfl)
            · refine s_ix' (o := .fz) (tb := .vw .fz) ?_ ?_ (by rfl) (by intro _ _; rfl) (by intro _ _; rfl) hu1 (by rfl) (by rfl)
              · refine e_var (i := 4) (k := .ve .fz) nm_law_pairs_4 (by rfl)
              refine s_bin' (ta := .vw .fz) (tb := .vw .fz) o_mul ?_ ?_ (by rfl) (by rfl)
              · exact e_int
              refine e_var (i := 6) (k := .ve .fz) nm_law_pairs_6 (by rfl)
            exact a_nil'
          refine e_var (i := 3) (k := .ve .fz) nm_law_pairs_3 (by rfl)
        refine ss_cons' ?_ ?_
        · refine e_set' (ta := .vw .fz) (i := 8) lo_law_pairs_8 (by rfl) ?_ (by rfl) (by exact .inl rfl) (by rfl)
          refine s_bin' (ta := .vw .fz) (tb := .vw .fz) o_mod ?_ ?_ (by rfl) (by rfl)
          · refine e_ty ⟨gl_by (by kernel_rfl), T.b_int⟩ (b_int) ?_ (by rfl) (by decide +kernel) (by decide +kernel) (by rfl) (by rfl)
            refine a_cons' (o := .bw) (ta := .vw .fz) ?_ ?_ (by rfl) (by rfl)
            · refine s_bin' (ta := .vw .fz) (tb := .vw .fz) o_add ?_ ?_ (by rfl) (by rfl)
              · refine s_bin' (ta := .vw .fz) (tb := .vw .fz) o_add ?_ ?_ (by rfl) (by rfl)
                · refine e_var (i := 7) (k := .ve .fz) nm_law_pairs_7 (by rfl)
                exact e_int
              refine s_bin' (ta := .vw .fz) (tb := .vw .fz) o_mod ?_ ?_ (by rfl) (by rfl)
              · refine e_ty ⟨gl_by (by kernel_rfl), T.b_int⟩ (b_int) ?_ (by rfl) (by decide +kernel) (by decide +kernel) (by rfl) (by rfl)
                refine a_cons' (o := .bw) (ta := .vw .fz) ?_ ?_ (by rfl) (by rfl)
                · refine s_ix' (o := .fz) (tb := .vw .fz) ?_ ?_ (by rfl) (by intro _ _; rfl) (by intro _ _; rfl) hu1 (by rfl) (by rfl)
                  · refine e_var (i := 4) (k := .ve .fz) nm_law_pairs_4 (by rfl)
                  refine s_bin' (ta := .vw .fz) (tb := .vw .fz) o_add ?_ ?_ (by rfl) (by rfl)
                  · refine s_bin' (ta := .vw .fz) (tb := .vw .fz) o_mul ?_ ?_ (by rfl) (by rfl)
                    · exact e_int
                    refine e_var (i := 6) (k := .ve .fz) nm_law_pairs_6 (by rfl)
                  exact e_int
                exact a_nil'
              refine s_bin' (ta := .vw .fz) (tb := .vw .fz) o_sub ?_ ?_ (by rfl) (by rfl)
              · refine e_var (i := 3) (k := .ve .fz) nm_law_pairs_3 (by rfl)
              exact e_int
            exact a_nil'
          refine e_var (i := 3) (k := .ve .fz) nm_law_pairs_3 (by rfl)
        refine ss_cons' ?_ ?_
        · refine st_append' (ta := .vw .fz) (i := 5) (by rfl) nm_law_pairs_5 (by rfl) ?_ (by rfl) (by rfl) (by rfl) (by rfl) (by rfl) (by rfl) (by rfl)
          refine s_tup' (os := [.fz, .fz]) ?_ (by simp) (by decide)
          refine a_cons' (o := .fz) (ta := .vw .fz) ?_ ?_ (by rfl) (by rfl)
          · refine s_ix' (o := .fz) (tb := .vw .fz) ?_ ?_ (by rfl) (by intro _ _; rfl) (by intro _ _; rfl) hu1 (by rfl) (by rfl)
            · refine e_var (i := 1) (k := .ve .fz) nm_law_pairs_1 (by rfl)
            refine e_var (i := 7) (k := .ve .fz) nm_law_pairs_7 (by rfl)
          refine a_cons' (o := .fz) (ta := .vw .fz) ?_ ?_ (by rfl) (by rfl)
          · refine s_ix' (o := .fz) (tb := .vw .fz) ?_ ?_ (by rfl) (by intro _ _; rfl) (by intro _ _; rfl) hu1 (by rfl) (by rfl)
            · refine e_var (i := 1) (k := .ve .fz) nm_law_pairs_1 (by rfl)
            refine e_var (i := 8) (k := .ve .fz) nm_law_pairs_8 (by rfl)
          exact a_nil'
        exact ss_nil'
      exact ss_nil'
    exact ss_nil'
  refine ss_cons' ?_ ?_
  · refine st_retOw' (i := 5) nm_law_pairs_5 (by rfl)
  exact ss_nil'
theorem ok_law_pairs {P : Program} {w : World} {K : PySem.W.Frag} {mg : Str → Option Value} {base : Heap} {f : Addr} {fd : FuncData} (T : Fx w K mg) (C__law_numbers : Cal P w K mg base "_law_numbers" 1 sg_law_numbers φ_law_numbers) (D : FunD K "_law_pairs" "_law_pairs" (defArgs (top 8)) (defBody (top 8)) (defScope (top 8)) [] [] f fd) (hm : mg "_law_pairs" = some (.ref f)) : Cal P w K mg base "_law_pairs" 2 sg_law_pairs φ_law_pairs := ⟨⟨f, fd, ["script", "names", "many"], def_ok D sc_law_pairs rfl rfl (by decide) rfl (body_law_pairs T C__law_numbers), hm, D.kp, D.bindsN fun _ _ _ _ _ _ us hl => match us, hl with | [_, _, _], _ => rfl⟩⟩
abbrev S_law_circle : Scope := defScope (top 9)
abbrev N_law_circle : List Str := ["script", "names", "size", "draws", "left", "row", "k", "at"]
abbrev K_law_circle : List Kd := [.ve .fz, .ve .fz, .ve .fz, .ve .fz, .ve .fz, .ow (.lst .fz), .ve .fz, .ve .fz]
theorem sc_law_circle : FnScope N_law_circle ["script", "names", "size"] S_law_circle := ⟨rfl, rfl, rfl, by decide +kernel, rfl, by decide +kernel, by decide +kernel⟩
theorem nd_law_circle : N_law_circle.Nodup := sc_law_circle.nd
theorem nm_law_circle_0 : Nm N_law_circle S_law_circle 0 "script" := nm_by (by kernel_rfl)
theorem nm_law_circle_1 : Nm N_law_circle S_law_circle 1 "names" := nm_by (by kernel_rfl)
theorem nm_law_circle_2 : Nm N_law_circle S_law_circle 2 "size" := nm_by (by kernel_rfl)
theorem nm_law_circle_3 : Nm N_law_circle S_law_circle 3 "draws" := nm_by (by kernel_rfl)
theorem lo_law_circle_3 : Lo N_law_circle S_law_circle 3 "draws" := lo_by (by kernel_rfl)
theorem nm_law_circle_4 : Nm N_law_circle S_law_circle 4 "left" := nm_by (by kernel_rfl)
theorem lo_law_circle_4 : Lo N_law_circle S_law_circle 4 "left" := lo_by (by kernel_rfl)
theorem nm_law_circle_5 : Nm N_law_circle S_law_circle 5 "row" := nm_by (by kernel_rfl)
theorem lo_law_circle_5 : Lo N_law_circle S_law_circle 5 "row" := lo_by (by kernel_rfl)
theorem nm_law_circle_6 : Nm N_law_circle S_law_circle 6 "k" := nm_by (by kernel_rfl)
theorem lo_law_circle_6 : Lo N_law_circle S_law_circle 6 "k" := lo_by (by kernel_rfl)
theorem nm_law_circle_7 : Nm N_law_circle S_law_circle 7 "at" := nm_by (by kernel_rfl)
theorem lo_law_circle_7 : Lo N_law_circle S_law_circle 7 "at" := lo_by (by kernel_rfl)
def g_law_circle : So := (sSeq (sSet 3 (fCall φ_law_numbers (lCons (evVar 0) (lCons (fC (.int 2)) (lCons (fC (.int 5)) lNil)))))
  (sSeq (sSet 4 (fBi lstD (lCons (evVar 1) lNil)))
  (sSeq (sSet 5 (fLst lNil))
  (sSeq (sFor (.nm 6) (iRng1 (evVar 2)) (sSeq (sSet 7 (fBin modD (fBi intD (lCons (fIx (evVar 3) (evVar 6)) lNil)) (fBi lenD (lCons (evVar 4) lNil))))
  (sSeq (sApp 5 (fIx (evVar 4) (evVar 7)))
  (sSeq (sSet 4 (fBin addD (fSl (evVar 4) none (some (evVar 7))) (fSl (evVar 4) (some (fBin addD (evVar 7) (fC (.int 1)))) none)))
  sNx))))
  (sSeq (sRet (lcF (.nm 6) none (fTup (lCons (fIx (evVar 5) (evVar 6)) (lCons (fIx (evVar 5) (fBin modD (fBi intD (lCons (fBin addD (evVar 6) (fC (.int 1))) lNil)) (evVar 2))) lNil))) (iRng1 (evVar 2)) [6]))
  sNx)))))
abbrev sg_law_circle : Sig := ⟨[.fz, .fz, .fz], .fr (.lst .fz)⟩
def φ_law_circle : Fn := defF (.fr (.lst .fz)) 8 g_law_circle
theorem body_law_circle {P : Program} {w : World} {K : PySem.W.Frag} {mg : Str → Option Value} {base : Heap} {f : Addr} (T : Fx w K mg) (C__law_numbers : Cal P w K mg base "_law_numbers" 1 sg_law_numbers φ_law_numbers) : BodyOk P w K mg base N_law_circle "_law_circle" S_law_circle f 1 K_law_circle (.fr (.lst .fz)) (defBody (top 9)) g_law_circle := by
  intro cdv A outer s H E c hr hK hKs tk
  obtain ⟨K', Ks', F0, G, W⟩ := c
  change K' = K at hK
  subst hK
  change Ks' = _ at hKs
  subst hKs
  have hun := hr.un
  have hu1 : (A.deeper (envOfC "_law_circle" S_law_circle s.heap.objs.size f cdv)).units + 1 < cLine := by omega
  have hu64 : (A.deeper (envOfC "_law_circle" S_law_circle s.heap.objs.size f cdv)).units + 64 < cLine := by omega
  have hu65 : (A.deeper (envOfC "_law_circle" S_law_circle s.heap.objs.size f cdv)).units + 65 < cLine := by omega
  refine ss_cons' ?_ ?_
  · refine e_set' (ta := .vw .fz) (i := 3) lo_law_circle_3 (by rfl) ?_ (by rfl) (by exact .inl rfl) (by rfl)
    refine s_fz (ta := .fr (.lst .fz)) ?_ (by rfl)
    refine e_call' C__law_numbers hr (by decide) (by rfl) (gl_by (by kernel_rfl)) tk ?_ (by decide +kernel) (by rfl) (by rfl) (by rfl)
    refine a_cons' (o := .fz) (ta := .vw .fz) ?_ ?_ (by rfl) (by rfl)
    · refine e_var (i := 0) (k := .ve .fz) nm_law_circle_0 (by rfl)
    refine a_cons' (o := .fz) (ta := .vw .fz) ?_ ?_ (by rfl) (by rfl)
    · exact e_int
    refine a_cons' (o := .fz) (ta := .vw .fz) ?_ ?_ (by rfl) (by rfl)
    · exact e_int
    exact a_nil'
  refine ss_cons' ?_ ?_
  · refine e_set' (ta := .vw .fz) (i := 4) lo_law_circle_4 (by rfl) ?_ (by rfl) (by exact .inl rfl) (by rfl)
    refine s_fz (ta := .fr (.lst .fz)) ?_ (by rfl)
    refine e_ty ⟨gl_by (by kernel_rfl), T.b_list⟩ (b_list) ?_ (by rfl) (by decide +kernel) (by decide +kernel) (by rfl) (by rfl)
    refine a_cons' (o := .bw) (ta := .vw .fz) ?_ ?_ (by rfl) (by rfl)
    · refine e_var (i := 1) (k := .ve .fz) nm_law_circle_1 (by rfl)
    exact a_nil'
  refine ss_cons' ?_ ?_
  · refine e_own' (i := 5) lo_law_circle_5 (by rfl) ?_ (by exact .inl rfl) (by rfl)
    refine s_lst' (os := []) ?_ (by simp) (by decide)
    exact a_nil'
  refine ss_cons' ?_ ?_
  · refine st_for' (gm := .fz) (t := (.nm 6)) (by exact passes_of rfl) (by rfl) ?_ ?_ ?_ (by nofun) (by intro _; rfl)
    · refine i_rng1' (ta := .vw .fz) ?_ (by rfl) (gl_by (by kernel_rfl)) T.b_range (by rfl)
      refine e_var (i := 2) (k := .ve .fz) nm_law_circle_2 (by rfl)
    · refine e_nm (i := 6) lo_law_circle_6 (by rfl) (by exact .inl rfl)
    refine ss_cons' ?_ ?_
    · refine e_set' (ta := .vw .fz) (i := 7) lo_law_circle_7 (by rfl) ?_ (by rfl) (by exact .inl rfl) (by rfl)
      refine s_bin' (ta := .vw .fz) (tb := .vw .fz) o_mod ?_ ?_ (by rfl) (by rfl)
      · refine e_ty ⟨gl_by (by kernel_rfl), T.b_int⟩ (b_int) ?_ (by rfl) (by decide +kernel) (by decide +kernel) (by rfl) (by rfl)
        refine a_cons' (o := .bw) (ta := .vw .fz) ?_ ?_ (by rfl) (by rfl)
        · refine s_ix' (o := .fz) (tb := .vw .fz) ?_ ?_ (by rfl) (by intro _ _; rfl) (by intro _ _; rfl) hu1 (by rfl) (by rfl)
          · refine e_var (i := 3) (k := .ve .fz) nm_law_circle_3 (by rfl)
          refine e_var (i := 6) (k := .ve .fz) nm_law_circle_6 (by rfl)
        exact a_nil'
      refine e_bi ⟨gl_by (by kernel_rfl), T.b_len⟩ (b_len (by rfl)) ?_ (by rfl) (by decide +kernel) (by decide +kernel) (by rfl) (by rfl)
      refine a_cons' (o := .bw) (ta := .vw .fz) ?_ ?_ (by rfl) (by rfl)
      · refine e_var (i := 4) (k := .ve .fz) nm_law_circle_4 (by rfl)
      exact a_nil'
    refine ss_cons' ?_ ?_
    · refine st_append' (ta := .vw .fz) (i := 5) (by rfl) nm_law_circle_5 (by rfl) ?_ (by rfl) (by rfl) (by rfl) (by rfl) (by rfl) (by rfl) (by rfl)
      refine s_ix' (o := .fz) (tb := .vw .fz) ?_ ?_ (by rfl) (by intro _ _; rfl) (by intro _ _; rfl) hu1 (by rfl) (by rfl)
      · refine e_var (i := 4) (k := .ve .fz) nm_law_circle_4 (by rfl)
      refine e_var (i := 7) (k := .ve .fz) nm_law_circle_7 (by rfl)
    refine ss_cons' ?_ ?_
    · refine e_set' (ta := .vw .fz) (i := 4) lo_law_circle_4 (by rfl) ?_ (by rfl) (by exact .inl rfl) (by rfl)
      refine s_bin' (ta := .vw .fz) (tb := .vw .fz) o_add ?_ ?_ (by rfl) (by rfl)
      · refine s_sl' (o := .fz) (pl := none) (pu := (some (.vw .fz, (evVar 7)))) (by rfl) (by rfl) ?_ ?_ ?_ (by rfl) (fun _ h => nomatch h) (fun _ h => by cases h; rfl)
        · refine e_var (i := 4) (k := .ve .fz) nm_law_circle_4 (by rfl)
        · refine PO_of (by trivial)
        refine PO_of ?_
        refine e_var (i := 7) (k := .ve .fz) nm_law_circle_7 (by rfl)
      refine s_sl' (o := .fz) (pl := (some (.vw .fz, (fBin addD (evVar 7) (fC (.int 1)))))) (pu := none) (by rfl) (by rfl) ?_ ?_ ?_ (by rfl) (fun _ h => by cases h; rfl) (fun _ h => nomatch h)
      · refine e_var (i := 4) (k := .ve .fz) nm_law_circle_4 (by rfl)
      · refine PO_of ?_
        refine s_bin' (ta := .vw .fz) (tb := .vw .fz) o_add ?_ ?_ (by rfl) (by rfl)
        · refine e_var (i := 7) (k := .ve .fz) nm_law_circle_7 (by rfl)
        exact e_int
      refine PO_of (by trivial)
    exact ss_nil'
  refine ss_cons' ?_ ?_
  · refine st_retFr' (ta := .fr (.lst .fz)) ?_ (by rfl)
    refine e_lc' (ety := .vw .fz) (gm := .fz) (own := [("k", 6)]) (t := (.nm 6)) (tst := none) (by rfl) nd_law_circle ?_ (blkOk_by (own := [("k", 6)]) (by kernel_rfl)) ?_ ?_ ?_ (by rfl) (by decide) (by intro _; rfl) (by rfl)
    · refine i_rng1' (ta := .vw .fz) ?_ (by rfl) (gl_by (by kernel_rfl)) T.b_range (by rfl)
      refine e_var (i := 2) (k := .ve .fz) nm_law_circle_2 (by rfl)
    · intro _ _ _ _ _
      refine e_nm (i := 6) (lo_by (by kernel_rfl)) (by rfl) (.inr (by kernel_rfl))
    · intro _ _ _ _ _
      exact p_nil
    intro _ _ _ _ _
    refine s_tup' (os := [.fz, .fz]) ?_ (by simp) (by decide)
    refine a_cons' (o := .fz) (ta := .vw .fz) ?_ ?_ (by rfl) (by rfl)
    · refine s_ix' (o := (.lst .fz)) (tb := .vw .fz) ?_ ?_ (by rfl) (by intro _ _; rfl) (by intro _ _; rfl) hu1 (by rfl) (by rfl)
      · refine e_var (i := 5) (k := .ow (.lst .fz)) (nm_by (by kernel_rfl)) (by rfl)
      refine e_var (i := 6) (k := .ve .fz) (nm_by (by kernel_rfl)) (by rfl)
    refine a_cons' (o := .fz) (ta := .vw .fz) ?_ ?_ (by rfl) (by rfl)
    · refine s_ix' (o := (.lst .fz)) (tb := .vw .fz) ?_ ?_ (by rfl) (by intro _ _; rfl) (by intro _ _; rfl) hu1 (by rfl) (by rfl)
      · refine e_var (i := 5) (k := .ow (.lst .fz)) (nm_by (by kernel_rfl)) (by rfl)
      refine s_bin' (ta := .vw .fz) (tb := .vw .fz) o_mod ?_ ?_ (by rfl) (by rfl)
      · refine e_ty ⟨gl_by (by kernel_rfl), T.b_int⟩ (b_int) ?_ (by rfl) (by decide +kernel) (by decide +kernel) (by rfl) (by rfl)
        refine a_cons' (o := .bw) (ta := .vw .fz) ?_ ?_ (by rfl) (by rfl)
        · refine s_bin' (ta := .vw .fz) (tb := .vw .fz) o_add ?_ ?_ (by rfl) (by rfl)
          · refine e_var (i := 6) (k := .ve .fz) (nm_by (by kernel_rfl)) (by rfl)
          exact e_int
        exact a_nil'
      refine e_var (i := 2) (k := .ve .fz) (nm_by (by kernel_rfl)) (by rfl)
    exact a_nil'
  exact ss_nil'
theorem ok_law_circle {P : Program} {w : World} {K : PySem.W.Frag} {mg : Str → Option Value} {base : Heap} {f : Addr} {fd : FuncData} (T : Fx w K mg) (C__law_numbers : Cal P w K mg base "_law_numbers" 1 sg_law_numbers φ_law_numbers) (D : FunD K "_law_circle" "_law_circle" (defArgs (top 9)) (defBody (top 9)) (defScope (top 9)) [] [] f fd) (hm : mg "_law_circle" = some (.ref f)) : Cal P w K mg base "_law_circle" 2 sg_law_circle φ_law_circle := ⟨⟨f, fd, ["script", "names", "size"], def_ok D sc_law_circle rfl rfl (by decide) rfl (body_law_circle T C__law_numbers), hm, D.kp, D.bindsN fun _ _ _ _ _ _ us hl => match us, hl with | [_, _, _], _ => rfl⟩⟩
abbrev S_law_due : Scope := defScope (top 10)
abbrev N_law_due : List Str := ["names", "pairs", "rows", "size", "longer", "row", "k", "steps", "step"]
abbrev K_law_due : List Kd := [.ve .fz, .ve .fz, .ve .fz, .ve .fz, .ow (.lst .fz), .ve .fz, .ve .fz, .ve .fz, .ve .fz]
theorem sc_law_due : FnScope N_law_due ["names", "pairs"] S_law_due := ⟨rfl, rfl, rfl, by decide +kernel, rfl, by decide +kernel, by decide +kernel⟩
theorem nd_law_due : N_law_due.Nodup := sc_law_due.nd
theorem nm_law_due_0 : Nm N_law_due S_law_due 0 "names" := nm_by (by kernel_rfl)
theorem nm_law_due_2 : Nm N_law_due S_law_due 2 "rows" := nm_by (by kernel_rfl)
theorem lo_law_due_2 : Lo N_law_due S_law_due 2 "rows" := lo_by (by kernel_rfl)
theorem nm_law_due_3 : Nm N_law_due S_law_due 3 "size" := nm_by (by kernel_rfl)
theorem lo_law_due_3 : Lo N_law_due S_law_due 3 "size" := lo_by (by kernel_rfl)
theorem nm_law_due_4 : Nm N_law_due S_law_due 4 "longer" := nm_by (by kernel_rfl)
theorem lo_law_due_4 : Lo N_law_due S_law_due 4 "longer" := lo_by (by kernel_rfl)
theorem nm_law_due_5 : Nm N_law_due S_law_due 5 "row" := nm_by (by kernel_rfl)
theorem lo_law_due_5 : Lo N_law_due S_law_due 5 "row" := lo_by (by kernel_rfl)
theorem nm_law_due_6 : Nm N_law_due S_law_due 6 "k" := nm_by (by kernel_rfl)
theorem lo_law_due_6 : Lo N_law_due S_law_due 6 "k" := lo_by (by kernel_rfl)
theorem nm_law_due_7 : Nm N_law_due S_law_due 7 "steps" := nm_by (by kernel_rfl)
theorem lo_law_due_7 : Lo N_law_due S_law_due 7 "steps" := lo_by (by kernel_rfl)
def g_law_due : So := (sSeq (sSet 2 (lcF (.nm 6) none (fLst (lCons (evVar 6) lNil)) (iRng1 (fBi lenD (lCons (evVar 0) lNil))) [6]))
  (sSeq (sFor (.nm 3) (iRng2 (fC (.int 2)) (fBin addD (fBi lenD (lCons (evVar 0) lNil)) (fC (.int 1)))) (sSeq (sSet 4 (fLst lNil))
  (sSeq (sFor (.nm 5) (iVal (evVar 2)) (sSeq (sFor (.nm 6) (iRng2 (fBin addD (fIx (evVar 5) (fC (.int 0))) (fC (.int 1))) (fBi lenD (lCons (evVar 0) lNil))) (sSeq (sIf (fCmp (inN true) (evVar 6) (evVar 5)) (sSeq (sApp 4 (fBin addD (evVar 5) (fLst (lCons (evVar 6) lNil))))
  sNx) sNx)
  sNx))
  sNx))
  (sSeq (sSet 2 (fBi lstD (lCons (evVar 4) lNil)))
  (sSeq (sFor (.nm 5) (iVal (evVar 2)) (sSeq (sSet 7 (lcF (.nm 6) none (fTup (lCons (fIx (evVar 0) (fIx (evVar 5) (evVar 6))) (lCons (fIx (evVar 0) (fIx (evVar 5) (fBin modD (fBi intD (lCons (fBin addD (evVar 6) (fC (.int 1))) lNil)) (evVar 3)))) lNil))) (iRng1 (evVar 3)) [6]))
  (sSeq (sIf (fCmp (eqD) (fBi lenD (lCons (lcF (.nm 8) (some (fCmp (inN true) (evVar 8) (evVar 1))) (evVar 8) (iVal (evVar 7)) [8]) lNil)) (fC (.int 0))) (sSeq (sRet (fBi tupD (lCons (lcF (.nm 6) none (fIx (evVar 0) (evVar 6)) (iVal (evVar 5)) [6]) lNil)))
  sNx) sNx)
  sNx)))
  sNx)))))
  (sSeq (sRet (fTup lNil))
  sNx)))
abbrev sg_law_due : Sig := ⟨[.fz, .fz], .vw .fz⟩
def φ_law_due : Fn := defF (.vw .fz) 9 g_law_due
theorem body_law_due {P : Program} {w : World} {K : PySem.W.Frag} {mg : Str → Option Value} {base : Heap} {f : Addr} (T : Fx w K mg) : BodyOk P w K mg base N_law_due "_law_due" S_law_due f 0 K_law_due (.vw .fz) (defBody (top 10)) g_law_due := by
  intro cdv A outer s H E c hr hK hKs tk
  obtain ⟨K', Ks', F0, G, W⟩ := c
  change K' = K at hK
  subst hK
  change Ks' = _ at hKs
  subst hKs
  have hun := hr.un
  have hu1 : (A.deeper (envOfC "_law_due" S_law_due s.heap.objs.size f cdv)).units + 1 < cLine := by omega
  have hu64 : (A.deeper (envOfC "_law_due" S_law_due s.heap.objs.size f cdv)).units + 64 < cLine := by omega
  have hu65 : (A.deeper (envOfC "_law_due" S_law_due s.heap.objs.size f cdv)).units + 65 < cLine := by omega
  refine ss_cons' ?_ ?_
  · refine e_setLc' (ety := .fr (.lst .fz)) (gm := .fz) (own := [("k", 6)]) (t := (.nm 6)) (tst := none) (by rfl) lo_law_due_2 (by kernel_rfl) ?_ (blkOk_by (own := [("k", 6)]) (by kernel_rfl)) ?_ ?_ ?_ (by rfl) (by decide) (by intro _; rfl) (by rfl) (sw_true (by rfl) (by kernel_rfl) (by rfl) (by kernel_rfl)) (by rfl)
    · refine i_rng1' (ta := .vw .fz) ?_ (by rfl) (gl_by (by kernel_rfl)) T.b_range (by rfl)
      refine e_bi ⟨gl_by (by kernel_rfl), T.b_len⟩ (b_len (by rfl)) ?_ (by rfl) (by decide +kernel) (by decide +kernel) (by rfl) (by rfl)
      refine a_cons' (o := .bw) (ta := .vw .fz) ?_ ?_ (by rfl) (by rfl)
      · refine e_var (i := 0) (k := .ve .fz) nm_law_due_0 (by rfl)
      exact a_nil'
    · intro _ _ _ _ _
      refine e_nm (i := 6) (lo_by (by kernel_rfl)) (by rfl) (.inr (by kernel_rfl))
    · intro _ _ _ _ _
      exact p_nil
    intro _ _ _ _ _
    refine s_lst' (os := [.fz]) ?_ (by simp) (by decide)
    refine a_cons' (o := .fz) (ta := .vw .fz) ?_ ?_ (by rfl) (by rfl)
    · refine e_var (i := 6) (k := .ve .fz) (nm_by (by kernel_rfl)) (by rfl)
    exact a_nil'
  refine ss_cons' ?_ ?_
  · refine st_for' (gm := .fz) (t := (.nm 3)) (by exact passes_of rfl) (by rfl) ?_ ?_ ?_ (by nofun) (by intro _; rfl)
    · refine i_rng2' (ta := .vw .fz) (tb := .vw .fz) ?_ ?_ (by rfl) (by rfl) (gl_by (by kernel_rfl)) T.b_range (by rfl) (by rfl)
      · exact e_int
      refine s_bin' (ta := .vw .fz) (tb := .vw .fz) o_add ?_ ?_ (by rfl) (by rfl)
      · refine e_bi ⟨gl_by (by kernel_rfl), T.b_len⟩ (b_len (by rfl)) ?_ (by rfl) (by decide +kernel) (by decide +kernel) (by rfl) (by rfl)
        refine a_cons' (o := .bw) (ta := .vw .fz) ?_ ?_ (by rfl) (by rfl)
        · refine e_var (i := 0) (k := .ve .fz) nm_law_due_0 (by rfl)
        exact a_nil'
      exact e_int
    · refine e_nm (i := 3) lo_law_due_3 (by rfl) (by exact .inl rfl)
    refine ss_cons' ?_ ?_
    · refine e_own' (i := 4) lo_law_due_4 (by rfl) ?_ (by exact .inl rfl) (by rfl)
      refine s_lst' (os := []) ?_ (by simp) (by decide)
      exact a_nil'
    refine ss_cons' ?_ ?_
    · refine st_for' (gm := .fz) (t := (.nm 5)) (by exact passes_of rfl) (by rfl) ?_ ?_ ?_ (by nofun) (by intro _; rfl)
      · refine i_val' (o := .fz) (by rfl) ?_ (by rfl) (by rfl)
        refine e_var (i := 2) (k := .ve .fz) nm_law_due_2 (by rfl)
      · refine e_nm (i := 5) lo_law_due_5 (by rfl) (by exact .inl rfl)
      refine ss_cons' ?_ ?_
      · refine st_for' (gm := .fz) (t := (.nm 6)) (by exact passes_of rfl) (by rfl) ?_ ?_ ?_ (by nofun) (by intro _; rfl)
        · refine i_rng2' (ta := .vw .fz) (tb := .vw .fz) ?_ ?_ (by rfl) (by rfl) (gl_by (by kernel_rfl)) T.b_range (by rfl) (by rfl)
          · refine s_bin' (ta := .vw .fz) (tb := .vw .fz) o_add ?_ ?_ (by rfl) (by rfl)
            · refine s_ix' (o := .fz) (tb := .vw .fz) ?_ ?_ (by rfl) (by intro _ _; rfl) (by intro _ _; rfl) hu1 (by rfl) (by rfl)
              · refine e_var (i := 5) (k := .ve .fz) nm_law_due_5 (by rfl)
              exact e_int
            exact e_int
          refine e_bi ⟨gl_by (by kernel_rfl), T.b_len⟩ (b_len (by rfl)) ?_ (by rfl) (by decide +kernel) (by decide +kernel) (by rfl) (by rfl)
          refine a_cons' (o := .bw) (ta := .vw .fz) ?_ ?_ (by rfl) (by rfl)
          · refine e_var (i := 0) (k := .ve .fz) nm_law_due_0 (by rfl)
          exact a_nil'
        · refine e_nm (i := 6) lo_law_due_6 (by rfl) (by exact .inl rfl)
        refine ss_cons' ?_ ?_
        · refine st_if' ?_ ?_ ?_
          · refine t_in' (neg := true) (ta := .vw .fz) (tb := .vw .fz) (by rfl) hu65 (by rfl) ?_ ?_ (by rfl) (by rfl) (by rfl)
            · refine e_var (i := 6) (k := .ve .fz) nm_law_due_6 (by rfl)
            refine e_var (i := 5) (k := .ve .fz) nm_law_due_5 (by rfl)
          · refine ss_cons' ?_ ?_
            · refine st_append' (ta := .vw .fz) (i := 4) (by rfl) nm_law_due_4 (by rfl) ?_ (by rfl) (by rfl) (by rfl) (by rfl) (by rfl) (by rfl) (by rfl)
              refine s_bin' (ta := .vw .fz) (tb := .fr (.lst .fz)) o_add ?_ ?_ (by rfl) (by rfl)
              · refine e_var (i := 5) (k := .ve .fz) nm_law_due_5 (by rfl)
              refine s_lst' (os := [.fz]) ?_ (by simp) (by decide)
              refine a_cons' (o := .fz) (ta := .vw .fz) ?_ ?_ (by rfl) (by rfl)
              · refine e_var (i := 6) (k := .ve .fz) nm_law_due_6 (by rfl)
              exact a_nil'
            exact ss_nil'
          exact ss_nil'
        exact ss_nil'
      exact ss_nil'
    refine ss_cons' ?_ ?_
    · refine e_set' (ta := .vw .fz) (i := 2) lo_law_due_2 (by rfl) ?_ (by rfl) (by exact .inl rfl) (by rfl)
      refine s_fz (ta := .fr (.lst .fz)) ?_ (by rfl)
      refine e_ty ⟨gl_by (by kernel_rfl), T.b_list⟩ (b_list) ?_ (by rfl) (by decide +kernel) (by decide +kernel) (by rfl) (by rfl)
      refine a_cons' (o := .bw) (ta := .vw (.lst .fz)) ?_ ?_ (by rfl) (by rfl)
      · refine e_var (i := 4) (k := .ow (.lst .fz)) nm_law_due_4 (by rfl)
      exact a_nil'
    refine ss_cons' ?_ ?_
    · refine st_for' (gm := .fz) (t := (.nm 5)) (by exact passes_of rfl) (by rfl) ?_ ?_ ?_ (by nofun) (by intro _; rfl)
      · refine i_val' (o := .fz) (by rfl) ?_ (by rfl) (by rfl)
        refine e_var (i := 2) (k := .ve .fz) nm_law_due_2 (by rfl)
      · refine e_nm (i := 5) lo_law_due_5 (by rfl) (by exact .inl rfl)
      refine ss_cons' ?_ ?_
      · refine e_setLc' (ety := .vw .fz) (gm := .fz) (own := [("k", 6)]) (t := (.nm 6)) (tst := none) (by rfl) lo_law_due_7 (by kernel_rfl) ?_ (blkOk_by (own := [("k", 6)]) (by kernel_rfl)) ?_ ?_ ?_ (by rfl) (by decide) (by intro _; rfl) (by rfl) (sw_true (by rfl) (by kernel_rfl) (by rfl) (by kernel_rfl)) (by rfl)
        · refine i_rng1' (ta := .vw .fz) ?_ (by rfl) (gl_by (by kernel_rfl)) T.b_range (by rfl)
          refine e_var (i := 3) (k := .ve .fz) nm_law_due_3 (by rfl)
        · intro _ _ _ _ _
          refine e_nm (i := 6) (lo_by (by kernel_rfl)) (by rfl) (.inr (by kernel_rfl))
        · intro _ _ _ _ _
          exact p_nil
        intro _ _ _ _ _
        refine s_tup' (os := [.fz, .fz]) ?_ (by simp) (by decide)
        refine a_cons' (o := .fz) (ta := .vw .fz) ?_ ?_ (by rfl) (by rfl)
        · refine s_ix' (o := .fz) (tb := .vw .fz) ?_ ?_ (by rfl) (by intro _ _; rfl) (by intro _ _; rfl) hu1 (by rfl) (by rfl)
          · refine e_var (i := 0) (k := .ve .fz) (nm_by (by kernel_rfl)) (by rfl)
          refine s_ix' (o := .fz) (tb := .vw .fz) ?_ ?_ (by rfl) (by intro _ _; rfl) (by intro _ _; rfl) hu1 (by rfl) (by rfl)
          · refine e_var (i := 5) (k := .ve .fz) (nm_by (by kernel_rfl)) (by rfl)
          refine e_var (i := 6) (k := .ve .fz) (nm_by (by kernel_rfl)) (by rfl)
        refine a_cons' (o := .fz) (ta := .vw .fz) ?_ ?_ (by rfl) (by rfl)
        · refine s_ix' (o := .fz) (tb := .vw .fz) ?_ ?_ (by rfl) (by intro _ _; rfl) (by intro _ _; rfl) hu1 (by rfl) (by rfl)
          · refine e_var (i := 0) (k := .ve .fz) (nm_by (by kernel_rfl)) (by rfl)
          refine s_ix' (o := .fz) (tb := .vw .fz) ?_ ?_ (by rfl) (by intro _ _; rfl) (by intro _ _; rfl) hu1 (by rfl) (by rfl)
          · refine e_var (i := 5) (k := .ve .fz) (nm_by (by kernel_rfl)) (by rfl)
          refine s_bin' (ta := .vw .fz) (tb := .vw .fz) o_mod ?_ ?_ (by rfl) (by rfl)
          · refine e_ty ⟨gl_by (by kernel_rfl), T.b_int⟩ (b_int) ?_ (by rfl) (by decide +kernel) (by decide +kernel) (by rfl) (by rfl)
            refine a_cons' (o := .bw) (ta := .vw .fz) ?_ ?_ (by rfl) (by rfl)
            · refine s_bin' (ta := .vw .fz) (tb := .vw .fz) o_add ?_ ?_ (by rfl) (by rfl)
              · refine e_var (i := 6) (k := .ve .fz) (nm_by (by kernel_rfl)) (by rfl)
              exact e_int
            exact a_nil'
          refine e_var (i := 3) (k := .ve .fz) (nm_by (by kernel_rfl)) (by rfl)
        exact a_nil'
      refine ss_cons' ?_ ?_
      · refine st_if' ?_ ?_ ?_
        · refine t_cmp' (ta := .vw .fz) (tb := .vw .fz) (o_eq hu64 (by rfl)) ?_ ?_ (by rfl) (by rfl) (by rfl)
          · refine e_bi ⟨gl_by (by kernel_rfl), T.b_len⟩ (b_len (by rfl)) ?_ (by rfl) (by decide +kernel) (by decide +kernel) (by rfl) (by rfl)
            refine a_cons' (o := .bw) (ta := .fr (.lst .fz)) ?_ ?_ (by rfl) (by rfl)
            · refine e_lc' (ety := .vw .fz) (gm := .fz) (own := [("step", 8)]) (t := (.nm 8)) (tst := (some (fCmp (inN true) (evVar 8) (evVar 1)))) (by rfl) nd_law_due ?_ (blkOk_by (own := [("step", 8)]) (by kernel_rfl)) ?_ ?_ ?_ (by rfl) (by decide) (by intro _; rfl) (by rfl)
              · refine i_val' (o := .fz) (by rfl) ?_ (by rfl) (by rfl)
                refine e_var (i := 7) (k := .ve .fz) nm_law_due_7 (by rfl)
              · intro _ _ _ _ _
                refine e_nm (i := 8) (lo_by (by kernel_rfl)) (by rfl) (.inr (by kernel_rfl))
              · intro _ _ _ _ _
                refine p_one ?_
                refine t_in' (neg := true) (ta := .vw .fz) (tb := .vw .fz) (by rfl) hu65 (by rfl) ?_ ?_ (by rfl) (by rfl) (by rfl)
                · refine e_var (i := 8) (k := .ve .fz) (nm_by (by kernel_rfl)) (by rfl)
                refine e_var (i := 1) (k := .ve .fz) (nm_by (by kernel_rfl)) (by rfl)
              intro _ _ _ _ _
              refine e_var (i := 8) (k := .ve .fz) (nm_by (by kernel_rfl)) (by rfl)
            exact a_nil'
          exact e_int
        · refine ss_cons' ?_ ?_
          · refine st_ret' (ta := .vw .fz) ?_ (by rfl)
            refine e_ty ⟨gl_by (by kernel_rfl), T.b_tuple⟩ (b_tuple) ?_ (by rfl) (by decide +kernel) (by decide +kernel) (by rfl) (by rfl)
            refine a_cons' (o := .bw) (ta := .fr (.lst .fz)) ?_ ?_ (by rfl) (by rfl)
            · refine e_lc' (ety := .vw .fz) (gm := .fz) (own := [("k", 6)]) (t := (.nm 6)) (tst := none) (by rfl) nd_law_due ?_ (blkOk_by (own := [("k", 6)]) (by kernel_rfl)) ?_ ?_ ?_ (by rfl) (by decide) (by intro _; rfl) (by rfl)
              · refine i_val' (o := .fz) (by rfl) ?_ (by rfl) (by rfl)
                refine e_var (i := 5) (k := .ve .fz) nm_law_due_5 (by rfl)
              · intro _ _ _ _ _
                refine e_nm (i := 6) (lo_by (by kernel_rfl)) (by rfl) (.inr (by kernel_rfl))
              · intro _ _ _ _ _
                exact p_nil
              intro _ _ _ _ _
              refine s_ix' (o := .fz) (tb := .vw .fz) ?_ ?_ (by rfl) (by intro _ _; rfl) (by intro _ _; rfl) hu1 (by rfl) (by rfl)
              · refine e_var (i := 0) (k := .ve .fz) (nm_by (by kernel_rfl)) (by rfl)
              refine e_var (i := 6) (k := .ve .fz) (nm_by (by kernel_rfl)) (by rfl)
            exact a_nil'
          exact ss_nil'
        exact ss_nil'
      exact ss_nil'
    exact ss_nil'
  refine ss_cons' ?_ ?_
  · refine st_ret' (ta := .vw .fz) ?_ (by rfl)
    refine s_tup' (os := []) ?_ (by simp) (by decide)
    exact a_nil'
  exact ss_nil'
theorem ok_law_due {P : Program} {w : World} {K : PySem.W.Frag} {mg : Str → Option Value} {base : Heap} {f : Addr} {fd : FuncData} (T : Fx w K mg) (D : FunD K "_law_due" "_law_due" (defArgs (top 10)) (defBody (top 10)) (defScope (top 10)) [] [] f fd) (hm : mg "_law_due" = some (.ref f)) : Cal P w K mg base "_law_due" 1 sg_law_due φ_law_due := ⟨⟨f, fd, ["names", "pairs"], def_ok D sc_law_due rfl rfl (by decide) rfl (body_law_due T), hm, D.kp, D.bindsN fun _ _ _ _ _ _ us hl => match us, hl with | [_, _], _ => rfl⟩⟩
abbrev S_law : Scope := defScope (top 11)
abbrev N_law : List Str := ["script", "draws", "names", "pairs", "handed", "due", "fewer"]
abbrev K_law : List Kd := [.ve .fz, .ve .fz, .ve .fz, .ve .fz, .ow (.lst .fz), .ve .fz, .ve .fz]
theorem sc_law : FnScope N_law ["script"] S_law := ⟨rfl, rfl, rfl, by decide +kernel, rfl, by decide +kernel, by decide +kernel⟩
theorem nm_law_0 : Nm N_law S_law 0 "script" := nm_by (by kernel_rfl)
theorem nm_law_1 : Nm N_law S_law 1 "draws" := nm_by (by kernel_rfl)
theorem lo_law_1 : Lo N_law S_law 1 "draws" := lo_by (by kernel_rfl)
theorem nm_law_2 : Nm N_law S_law 2 "names" := nm_by (by kernel_rfl)
theorem lo_law_2 : Lo N_law S_law 2 "names" := lo_by (by kernel_rfl)
theorem nm_law_3 : Nm N_law S_law 3 "pairs" := nm_by (by kernel_rfl)
theorem lo_law_3 : Lo N_law S_law 3 "pairs" := lo_by (by kernel_rfl)
theorem nm_law_4 : Nm N_law S_law 4 "handed" := nm_by (by kernel_rfl)
theorem lo_law_4 : Lo N_law S_law 4 "handed" := lo_by (by kernel_rfl)
theorem nm_law_5 : Nm N_law S_law 5 "due" := nm_by (by kernel_rfl)
theorem lo_law_5 : Lo N_law S_law 5 "due" := lo_by (by kernel_rfl)
theorem nm_law_6 : Nm N_law S_law 6 "fewer" := nm_by (by kernel_rfl)
theorem lo_law_6 : Lo N_law S_law 6 "fewer" := lo_by (by kernel_rfl)
def g_law : So := (sSeq (sSet 1 (fCall φ_law_numbers (lCons (evVar 0) (lCons (fC (.int 0)) (lCons (fC (.int 8)) lNil)))))
  (sSeq (sSet 2 (fSl (fCall φ_law_names (lCons (fIx (evVar 1) (fC (.int 1))) (lCons (fIx (evVar 1) (fC (.int 2))) lNil))) none (some (fBin modD (fBi intD (lCons (fIx (evVar 1) (fC (.int 0))) lNil)) (fC (.int 6))))))
  (sSeq (sSet 3 (fCall φ_law_pairs (lCons (evVar 0) (lCons (evVar 2) (lCons (fBin modD (fBi intD (lCons (fIx (evVar 1) (fC (.int 3))) lNil)) (fC (.int 16))) lNil)))))
  (sSeq (sIf (fAnd (fCmp (op pGt) (fBi lenD (lCons (evVar 2) lNil)) (fC (.int 1))) (fCmp (eqD) (fBin modD (fBi intD (lCons (fIx (evVar 1) (fC (.int 5))) lNil)) (fC (.int 3))) (fC (.int 1)))) (sSeq (sSet 3 (fBin addD (fCall φ_law_circle (lCons (evVar 0) (lCons (evVar 2) (lCons (fBin addD (fC (.int 2)) (fBin modD (fBi intD (lCons (fIx (evVar 1) (fC (.int 6))) lNil)) (fBin subD (fBi lenD (lCons (evVar 2) lNil)) (fC (.int 1))))) lNil)))) (evVar 3)))
  sNx) sNx)
  (sSeq (sSet 4 (fBi lstD (lCons (evVar 3) lNil)))
  (sAlt (fCmp (eqD) (fBin modD (fBi intD (lCons (fIx (evVar 1) (fC (.int 4))) lNil)) (fC (.int 2))) (fC (.int 1))) 4 (fBi tupD (lCons (evVar 3) lNil))
  (sSeq (sSet 5 (fCall φ_law_due (lCons (evVar 2) (lCons (evVar 3) lNil))))
  (sSeq (sIf (fOr (fNot (fCall φ_law_same (lCons (fCall φ_shortest_lock_cycle (lCons (fBi tupD (lCons (evVar 2) lNil)) (lCons (evVar 4) lNil))) (lCons (evVar 5) lNil)))) (fCmp (neD) (fBi lstD (lCons (evVar 4) lNil)) (evVar 3))) (sSeq (sRet (fC (.bl false)))
  sNx) sNx)
  (sSeq (sIf (fCmp (eqD) (fBi lenD (lCons (evVar 3) lNil)) (fC (.int 0))) (sSeq (sRet (fC (.bl true)))
  sNx) sNx)
  (sSeq (sSet 6 (fSl (evVar 3) none (some (fC (.int (-1))))))
  (sSeq (sIf (fIsi .list (evVar 4)) (sSeq (sPop 4)
  (sFrz 4 (sSeq (sIf (fNot (fCall φ_law_same (lCons (fCall φ_shortest_lock_cycle (lCons (fBi tupD (lCons (evVar 2) lNil)) (lCons (evVar 4) lNil))) (lCons (fCall φ_law_due (lCons (evVar 2) (lCons (evVar 6) lNil))) lNil)))) (sSeq (sRet (fC (.bl false)))
  sNx) sNx)
  sNx))) sNx)
  (sSeq (sRet (fCall φ_law_same (lCons (fCall φ_shortest_lock_cycle (lCons (fBi tupD (lCons (evVar 2) lNil)) (lCons (fBi tupD (lCons (evVar 6) lNil)) lNil))) (lCons (fCall φ_law_due (lCons (evVar 2) (lCons (evVar 6) lNil))) lNil))))
  sNx))))))
  (sSeq (sSet 5 (fCall φ_law_due (lCons (evVar 2) (lCons (evVar 3) lNil))))
  (sSeq (sIf (fOr (fNot (fCall φ_law_same (lCons (fCall φ_shortest_lock_cycle (lCons (fBi tupD (lCons (evVar 2) lNil)) (lCons (evVar 4) lNil))) (lCons (evVar 5) lNil)))) (fCmp (neD) (fBi lstD (lCons (evVar 4) lNil)) (evVar 3))) (sSeq (sRet (fC (.bl false)))
  sNx) sNx)
  (sSeq (sIf (fCmp (eqD) (fBi lenD (lCons (evVar 3) lNil)) (fC (.int 0))) (sSeq (sRet (fC (.bl true)))
  sNx) sNx)
  (sSeq (sSet 6 (fSl (evVar 3) none (some (fC (.int (-1))))))
  (sSeq (sIf (fIsi .list (evVar 4)) (sSeq sNever
  (sSeq (sIf (fNot (fCall φ_law_same (lCons (fCall φ_shortest_lock_cycle (lCons (fBi tupD (lCons (evVar 2) lNil)) (lCons (evVar 4) lNil))) (lCons (fCall φ_law_due (lCons (evVar 2) (lCons (evVar 6) lNil))) lNil)))) (sSeq (sRet (fC (.bl false)))
  sNx) sNx)
  sNx)) sNx)
  (sSeq (sRet (fCall φ_law_same (lCons (fCall φ_shortest_lock_cycle (lCons (fBi tupD (lCons (evVar 2) lNil)) (lCons (fBi tupD (lCons (evVar 6) lNil)) lNil))) (lCons (fCall φ_law_due (lCons (evVar 2) (lCons (evVar 6) lNil))) lNil))))
  sNx))))))))))))
abbrev sg_law : Sig := ⟨[.fz], .vw .fz⟩
def φ_law : Fn := defF (.vw .fz) 7 g_law
theorem body_law {P : Program} {w : World} {K : PySem.W.Frag} {mg : Str → Option Value} {base : Heap} {f : Addr} (T : Fx w K mg) (C__law_numbers : Cal P w K mg base "_law_numbers" 1 sg_law_numbers φ_law_numbers) (C__law_names : Cal P w K mg base "_law_names" 1 sg_law_names φ_law_names) (C__law_pairs : Cal P w K mg base "_law_pairs" 2 sg_law_pairs φ_law_pairs) (C__law_circle : Cal P w K mg base "_law_circle" 2 sg_law_circle φ_law_circle) (C__law_due : Cal P w K mg base "_law_due" 1 sg_law_due φ_law_due) (C_shortest_lock_cycle : Cal P w K mg base "shortest_lock_cycle" 2 sg_shortest_lock_cycle φ_shortest_lock_cycle) (C__law_same : Cal P w K mg base "_law_same" 2 sg_law_same φ_law_same) : BodyOk P w K mg base N_law "law" S_law f 2 K_law (.vw .fz) (defBody (top 11)) g_law := by
  intro cdv A outer s H E c hr hK hKs tk
  obtain ⟨K', Ks', F0, G, W⟩ := c
  change K' = K at hK
  subst hK
  change Ks' = _ at hKs
  subst hKs
  have hun := hr.un
  have hu1 : (A.deeper (envOfC "law" S_law s.heap.objs.size f cdv)).units + 1 < cLine := by omega
  have hu64 : (A.deeper (envOfC "law" S_law s.heap.objs.size f cdv)).units + 64 < cLine := by omega
  have hu65 : (A.deeper (envOfC "law" S_law s.heap.objs.size f cdv)).units + 65 < cLine := by omega
  refine ss_cons' ?_ ?_
  · refine e_set' (ta := .vw .fz) (i := 1) lo_law_1 (by rfl) ?_ (by rfl) (by exact .inl rfl) (by rfl)
    refine s_fz (ta := .fr (.lst .fz)) ?_ (by rfl)
    refine e_call' C__law_numbers hr (by decide) (by rfl) (gl_by (by kernel_rfl)) tk ?_ (by decide +kernel) (by rfl) (by rfl) (by rfl)
    refine a_cons' (o := .fz) (ta := .vw .fz) ?_ ?_ (by rfl) (by rfl)
    · refine e_var (i := 0) (k := .ve .fz) nm_law_0 (by rfl)
    refine a_cons' (o := .fz) (ta := .vw .fz) ?_ ?_ (by rfl) (by rfl)
    · exact e_int
    refine a_cons' (o := .fz) (ta := .vw .fz) ?_ ?_ (by rfl) (by rfl)
    · exact e_int
    exact a_nil'
  refine ss_cons' ?_ ?_
  · refine e_set' (ta := .vw .fz) (i := 2) lo_law_2 (by rfl) ?_ (by rfl) (by exact .inl rfl) (by rfl)
    refine s_sl' (o := .fz) (pl := none) (pu := (some (.vw .fz, (fBin modD (fBi intD (lCons (fIx (evVar 1) (fC (.int 0))) lNil)) (fC (.int 6)))))) (by rfl) (by rfl) ?_ ?_ ?_ (by rfl) (fun _ h => nomatch h) (fun _ h => by cases h; rfl)
    · refine s_fz (ta := .fr (.lst .fz)) ?_ (by rfl)
      refine e_call' C__law_names hr (by decide) (by rfl) (gl_by (by kernel_rfl)) tk ?_ (by decide +kernel) (by rfl) (by rfl) (by rfl)
      refine a_cons' (o := .fz) (ta := .vw .fz) ?_ ?_ (by rfl) (by rfl)
      · refine s_ix' (o := .fz) (tb := .vw .fz) ?_ ?_ (by rfl) (by intro _ _; rfl) (by intro _ _; rfl) hu1 (by rfl) (by rfl)
        · refine e_var (i := 1) (k := .ve .fz) nm_law_1 (by rfl)
        exact e_int
      refine a_cons' (o := .fz) (ta := .vw .fz) ?_ ?_ (by rfl) (by rfl)
      · refine s_ix' (o := .fz) (tb := .vw .fz) ?_ ?_ (by rfl) (by intro _ _; rfl) (by intro _ _; rfl) hu1 (by rfl) (by rfl)
        · refine e_var (i := 1) (k := .ve .fz) nm_law_1 (by rfl)
        exact e_int
      exact a_nil'
    · refine PO_of (by trivial)
    refine PO_of ?_
    refine s_bin' (ta := .vw .fz) (tb := .vw .fz) o_mod ?_ ?_ (by rfl) (by rfl)
    · refine e_ty ⟨gl_by (by kernel_rfl), T.b_int⟩ (b_int) ?_ (by rfl) (by decide +kernel) (by decide +kernel) (by rfl) (by rfl)
      refine a_cons' (o := .bw) (ta := .vw .fz) ?_ ?_ (by rfl) (by rfl)
      · refine s_ix' (o := .fz) (tb := .vw .fz) ?_ ?_ (by rfl) (by intro _ _; rfl) (by intro _ _; rfl) hu1 (by rfl) (by rfl)
        · refine e_var (i := 1) (k := .ve .fz) nm_law_1 (by rfl)
        exact e_int
      exact a_nil'
    exact e_int
  refine ss_cons' ?_ ?_
  · refine e_set' (ta := .vw .fz) (i := 3) lo_law_3 (by rfl) ?_ (by rfl) (by exact .inl rfl) (by rfl)
    refine s_fz (ta := .fr (.lst .fz)) ?_ (by rfl)
    refine e_call' C__law_pairs hr (by decide) (by rfl) (gl_by (by kernel_rfl)) tk ?_ (by decide +kernel) (by rfl) (by rfl) (by rfl)
    refine a_cons' (o := .fz) (ta := .vw .fz) ?_ ?_ (by rfl) (by rfl)
    · refine e_var (i := 0) (k := .ve .fz) nm_law_0 (by rfl)
    refine a_cons' (o := .fz) (ta := .vw .fz) ?_ ?_ (by rfl) (by rfl)
    · refine e_var (i := 2) (k := .ve .fz) nm_law_2 (by rfl)
    refine a_cons' (o := .fz) (ta := .vw .fz) ?_ ?_ (by rfl) (by rfl)
    · refine s_bin' (ta := .vw .fz) (tb := .vw .fz) o_mod ?_ ?_ (by rfl) (by rfl)
      · refine e_ty ⟨gl_by (by kernel_rfl), T.b_int⟩ (b_int) ?_ (by rfl) (by decide +kernel) (by decide +kernel) (by rfl) (by rfl)
        refine a_cons' (o := .bw) (ta := .vw .fz) ?_ ?_ (by rfl) (by rfl)
        · refine s_ix' (o := .fz) (tb := .vw .fz) ?_ ?_ (by rfl) (by intro _ _; rfl) (by intro _ _; rfl) hu1 (by rfl) (by rfl)
          · refine e_var (i := 1) (k := .ve .fz) nm_law_1 (by rfl)
          exact e_int
        exact a_nil'
      exact e_int
    exact a_nil'
  refine ss_cons' ?_ ?_
  · refine st_if' ?_ ?_ ?_
    · refine PW.pt ?_
      refine w_and' ?_ ?_
      · refine t_cmp' (ta := .vw .fz) (tb := .vw .fz) (o_cmpI op_gt) ?_ ?_ (by rfl) (by rfl) (by rfl)
        · refine e_bi ⟨gl_by (by kernel_rfl), T.b_len⟩ (b_len (by rfl)) ?_ (by rfl) (by decide +kernel) (by decide +kernel) (by rfl) (by rfl)
          refine a_cons' (o := .bw) (ta := .vw .fz) ?_ ?_ (by rfl) (by rfl)
          · refine e_var (i := 2) (k := .ve .fz) nm_law_2 (by rfl)
          exact a_nil'
        exact e_int
      refine w_one ?_
      refine t_cmp' (ta := .vw .fz) (tb := .vw .fz) (o_eq hu64 (by rfl)) ?_ ?_ (by rfl) (by rfl) (by rfl)
      · refine s_bin' (ta := .vw .fz) (tb := .vw .fz) o_mod ?_ ?_ (by rfl) (by rfl)
        · refine e_ty ⟨gl_by (by kernel_rfl), T.b_int⟩ (b_int) ?_ (by rfl) (by decide +kernel) (by decide +kernel) (by rfl) (by rfl)
          refine a_cons' (o := .bw) (ta := .vw .fz) ?_ ?_ (by rfl) (by rfl)
          · refine s_ix' (o := .fz) (tb := .vw .fz) ?_ ?_ (by rfl) (by intro _ _; rfl) (by intro _ _; rfl) hu1 (by rfl) (by rfl)
            · refine e_var (i := 1) (k := .ve .fz) nm_law_1 (by rfl)
            exact e_int
          exact a_nil'
        exact e_int
      exact e_int
    · refine ss_cons' ?_ ?_
      · refine e_set' (ta := .vw .fz) (i := 3) lo_law_3 (by rfl) ?_ (by rfl) (by exact .inl rfl) (by rfl)
        refine s_bin' (ta := .fr (.lst .fz)) (tb := .vw .fz) o_add ?_ ?_ (by rfl) (by rfl)
        · refine e_call' C__law_circle hr (by decide) (by rfl) (gl_by (by kernel_rfl)) tk ?_ (by decide +kernel) (by rfl) (by rfl) (by rfl)
          refine a_cons' (o := .fz) (ta := .vw .fz) ?_ ?_ (by rfl) (by rfl)
          · refine e_var (i := 0) (k := .ve .fz) nm_law_0 (by rfl)
          refine a_cons' (o := .fz) (ta := .vw .fz) ?_ ?_ (by rfl) (by rfl)
          · refine e_var (i := 2) (k := .ve .fz) nm_law_2 (by rfl)
          refine a_cons' (o := .fz) (ta := .vw .fz) ?_ ?_ (by rfl) (by rfl)
          · refine s_bin' (ta := .vw .fz) (tb := .vw .fz) o_add ?_ ?_ (by rfl) (by rfl)
            · exact e_int
            refine s_bin' (ta := .vw .fz) (tb := .vw .fz) o_mod ?_ ?_ (by rfl) (by rfl)
            · refine e_ty ⟨gl_by (by kernel_rfl), T.b_int⟩ (b_int) ?_ (by rfl) (by decide +kernel) (by decide +kernel) (by rfl) (by rfl)
              refine a_cons' (o := .bw) (ta := .vw .fz) ?_ ?_ (by rfl) (by rfl)
              · refine s_ix' (o := .fz) (tb := .vw .fz) ?_ ?_ (by rfl) (by intro _ _; rfl) (by intro _ _; rfl) hu1 (by rfl) (by rfl)
                · refine e_var (i := 1) (k := .ve .fz) nm_law_1 (by rfl)
                exact e_int
              exact a_nil'
            refine s_bin' (ta := .vw .fz) (tb := .vw .fz) o_sub ?_ ?_ (by rfl) (by rfl)
            · refine e_bi ⟨gl_by (by kernel_rfl), T.b_len⟩ (b_len (by rfl)) ?_ (by rfl) (by decide +kernel) (by decide +kernel) (by rfl) (by rfl)
              refine a_cons' (o := .bw) (ta := .vw .fz) ?_ ?_ (by rfl) (by rfl)
              · refine e_var (i := 2) (k := .ve .fz) nm_law_2 (by rfl)
              exact a_nil'
            exact e_int
          exact a_nil'
        refine e_var (i := 3) (k := .ve .fz) nm_law_3 (by rfl)
      exact ss_nil'
    exact ss_nil'
  refine ss_cons' ?_ ?_
  · refine e_own' (i := 4) lo_law_4 (by rfl) ?_ (by exact .inl rfl) (by rfl)
    refine e_ty ⟨gl_by (by kernel_rfl), T.b_list⟩ (b_list) ?_ (by rfl) (by decide +kernel) (by decide +kernel) (by rfl) (by rfl)
    refine a_cons' (o := .bw) (ta := .vw .fz) ?_ ?_ (by rfl) (by rfl)
    · refine e_var (i := 3) (k := .ve .fz) nm_law_3 (by rfl)
    exact a_nil'
  refine ss_alt (i := 4) (o := .lst .fz) (ta := .vw .fz) lo_law_4 (by rfl) (by exact .inl rfl) ?_ ?_ (by rfl) (by rfl) ?_ ?_
  · refine t_cmp' (ta := .vw .fz) (tb := .vw .fz) (o_eq hu64 (by rfl)) ?_ ?_ (by rfl) (by rfl) (by rfl)
    · refine s_bin' (ta := .vw .fz) (tb := .vw .fz) o_mod ?_ ?_ (by rfl) (by rfl)
      · refine e_ty ⟨gl_by (by kernel_rfl), T.b_int⟩ (b_int) ?_ (by rfl) (by decide +kernel) (by decide +kernel) (by rfl) (by rfl)
        refine a_cons' (o := .bw) (ta := .vw .fz) ?_ ?_ (by rfl) (by rfl)
        · refine s_ix' (o := .fz) (tb := .vw .fz) ?_ ?_ (by rfl) (by intro _ _; rfl) (by intro _ _; rfl) hu1 (by rfl) (by rfl)
          · refine e_var (i := 1) (k := .ve .fz) nm_law_1 (by rfl)
          exact e_int
        exact a_nil'
      exact e_int
    exact e_int
  · refine e_ty ⟨gl_by (by kernel_rfl), T.b_tuple⟩ (b_tuple) ?_ (by rfl) (by decide +kernel) (by decide +kernel) (by rfl) (by rfl)
    refine a_cons' (o := .bw) (ta := .vw .fz) ?_ ?_ (by rfl) (by rfl)
    · refine e_var (i := 3) (k := .ve .fz) nm_law_3 (by rfl)
    exact a_nil'
  · refine ss_cons' ?_ ?_
    · refine e_set' (ta := .vw .fz) (i := 5) lo_law_5 (by rfl) ?_ (by rfl) (by exact .inl rfl) (by rfl)
      refine e_call' C__law_due hr (by decide) (by rfl) (gl_by (by kernel_rfl)) tk ?_ (by decide +kernel) (by rfl) (by rfl) (by rfl)
      refine a_cons' (o := .fz) (ta := .vw .fz) ?_ ?_ (by rfl) (by rfl)
      · refine e_var (i := 2) (k := .ve .fz) nm_law_2 (by rfl)
      refine a_cons' (o := .fz) (ta := .vw .fz) ?_ ?_ (by rfl) (by rfl)
      · refine e_var (i := 3) (k := .ve .fz) nm_law_3 (by rfl)
      exact a_nil'
    refine ss_cons' ?_ ?_
    · refine st_if' ?_ ?_ ?_
      · refine PW.pt ?_
        refine w_or' ?_ ?_
        · refine t_not' ?_
          refine t_val (ta := .vw .fz) ?_ (by intro _; rfl) (by rfl)
          refine e_call' C__law_same hr (by decide) (by rfl) (gl_by (by kernel_rfl)) tk ?_ (by decide +kernel) (by rfl) (by rfl) (by rfl)
          refine a_cons' (o := .fz) (ta := .vw .fz) ?_ ?_ (by rfl) (by rfl)
          · refine e_call' C_shortest_lock_cycle hr (by decide) (by rfl) (gl_by (by kernel_rfl)) tk ?_ (by decide +kernel) (by rfl) (by rfl) (by rfl)
            refine a_cons' (o := .fz) (ta := .vw .fz) ?_ ?_ (by rfl) (by rfl)
            · refine e_ty ⟨gl_by (by kernel_rfl), T.b_tuple⟩ (b_tuple) ?_ (by rfl) (by decide +kernel) (by decide +kernel) (by rfl) (by rfl)
              refine a_cons' (o := .bw) (ta := .vw .fz) ?_ ?_ (by rfl) (by rfl)
              · refine e_var (i := 2) (k := .ve .fz) nm_law_2 (by rfl)
              exact a_nil'
            refine a_cons' (o := .bw) (ta := .vw (.lst .fz)) ?_ ?_ (by rfl) (by rfl)
            · refine e_var (i := 4) (k := .ow (.lst .fz)) nm_law_4 (by rfl)
            exact a_nil'
          refine a_cons' (o := .fz) (ta := .vw .fz) ?_ ?_ (by rfl) (by rfl)
          · refine e_var (i := 5) (k := .ve .fz) nm_law_5 (by rfl)
          exact a_nil'
        refine w_one ?_
        refine t_cmp' (ta := .fr (.lst .fz)) (tb := .vw .fz) (o_ne hu64 (by rfl)) ?_ ?_ (by rfl) (by rfl) (by rfl)
        · refine e_ty ⟨gl_by (by kernel_rfl), T.b_list⟩ (b_list) ?_ (by rfl) (by decide +kernel) (by decide +kernel) (by rfl) (by rfl)
          refine a_cons' (o := .bw) (ta := .vw (.lst .fz)) ?_ ?_ (by rfl) (by rfl)
          · refine e_var (i := 4) (k := .ow (.lst .fz)) nm_law_4 (by rfl)
          exact a_nil'
        refine e_var (i := 3) (k := .ve .fz) nm_law_3 (by rfl)
      · refine ss_cons' ?_ ?_
        · refine st_ret' (ta := .vw .fz) ?_ (by rfl)
          exact e_bl
        exact ss_nil'
      exact ss_nil'
    refine ss_cons' ?_ ?_
    · refine st_if' ?_ ?_ ?_
      · refine t_cmp' (ta := .vw .fz) (tb := .vw .fz) (o_eq hu64 (by rfl)) ?_ ?_ (by rfl) (by rfl) (by rfl)
        · refine e_bi ⟨gl_by (by kernel_rfl), T.b_len⟩ (b_len (by rfl)) ?_ (by rfl) (by decide +kernel) (by decide +kernel) (by rfl) (by rfl)
          refine a_cons' (o := .bw) (ta := .vw .fz) ?_ ?_ (by rfl) (by rfl)
          · refine e_var (i := 3) (k := .ve .fz) nm_law_3 (by rfl)
          exact a_nil'
        exact e_int
      · refine ss_cons' ?_ ?_
        · refine st_ret' (ta := .vw .fz) ?_ (by rfl)
          exact e_bl
        exact ss_nil'
      exact ss_nil'
    refine ss_cons' ?_ ?_
    · refine e_set' (ta := .vw .fz) (i := 6) lo_law_6 (by rfl) ?_ (by rfl) (by exact .inl rfl) (by rfl)
      refine s_sl' (o := .fz) (pl := none) (pu := (some (.vw .fz, (fC (.int (-1)))))) (by rfl) (by rfl) ?_ ?_ ?_ (by rfl) (fun _ h => nomatch h) (fun _ h => by cases h; rfl)
      · refine e_var (i := 3) (k := .ve .fz) nm_law_3 (by rfl)
      · refine PO_of (by trivial)
      refine PO_of ?_
      exact e_neg
    refine ss_cons' ?_ ?_
    · refine st_if' ?_ ?_ ?_
      · refine t_val (ta := .vw .fz) ?_ (by intro _; rfl) (by rfl)
        refine e_isi (t := .list) (ta := .vw (.lst .fz)) ⟨gl_by (by kernel_rfl), T.b_isinstance⟩ ⟨gl_by (by kernel_rfl), T.b_list⟩ (by rfl) ?_ (by rfl) (by rfl) (by decide +kernel) (by decide +kernel) (by rfl)
        refine e_var (i := 4) (k := .ow (.lst .fz)) nm_law_4 (by rfl)
      · refine ss_cons' ?_ ?_
        · refine st_pop (i := 4) nm_law_4 (by rfl) (by rfl) (by rfl) (by rfl)
        refine ss_frz' (i := 4) (by rfl) ?_
        refine ss_cons' ?_ ?_
        · refine st_if' ?_ ?_ ?_
          · refine t_not' ?_
            refine t_val (ta := .vw .fz) ?_ (by intro _; rfl) (by rfl)
            refine e_call' C__law_same hr (by decide) (by rfl) (gl_by (by kernel_rfl)) tk ?_ (by decide +kernel) (by rfl) (by rfl) (by rfl)
            refine a_cons' (o := .fz) (ta := .vw .fz) ?_ ?_ (by rfl) (by rfl)
            · refine e_call' C_shortest_lock_cycle hr (by decide) (by rfl) (gl_by (by kernel_rfl)) tk ?_ (by decide +kernel) (by rfl) (by rfl) (by rfl)
              refine a_cons' (o := .fz) (ta := .vw .fz) ?_ ?_ (by rfl) (by rfl)
              · refine e_ty ⟨gl_by (by kernel_rfl), T.b_tuple⟩ (b_tuple) ?_ (by rfl) (by decide +kernel) (by decide +kernel) (by rfl) (by rfl)
                refine a_cons' (o := .bw) (ta := .vw .fz) ?_ ?_ (by rfl) (by rfl)
                · refine e_var (i := 2) (k := .ve .fz) nm_law_2 (by rfl)
                exact a_nil'
              refine a_cons' (o := .bw) (ta := .vw .fz) ?_ ?_ (by rfl) (by rfl)
              · refine e_var (i := 4) (k := .ve .fz) nm_law_4 (by rfl)
              exact a_nil'
            refine a_cons' (o := .fz) (ta := .vw .fz) ?_ ?_ (by rfl) (by rfl)
            · refine e_call' C__law_due hr (by decide) (by rfl) (gl_by (by kernel_rfl)) tk ?_ (by decide +kernel) (by rfl) (by rfl) (by rfl)
              refine a_cons' (o := .fz) (ta := .vw .fz) ?_ ?_ (by rfl) (by rfl)
              · refine e_var (i := 2) (k := .ve .fz) nm_law_2 (by rfl)
              refine a_cons' (o := .fz) (ta := .vw .fz) ?_ ?_ (by rfl) (by rfl)
              · refine e_var (i := 6) (k := .ve .fz) nm_law_6 (by rfl)
              exact a_nil'
            exact a_nil'
          · refine ss_cons' ?_ ?_
            · refine st_ret' (ta := .vw .fz) ?_ (by rfl)
              exact e_bl
            exact ss_nil'
          exact ss_nil'
        exact ss_nil'
      exact ss_nil'
    refine ss_cons' ?_ ?_
    · refine st_ret' (ta := .vw .fz) ?_ (by rfl)
      refine e_call' C__law_same hr (by decide) (by rfl) (gl_by (by kernel_rfl)) tk ?_ (by decide +kernel) (by rfl) (by rfl) (by rfl)
      refine a_cons' (o := .fz) (ta := .vw .fz) ?_ ?_ (by rfl) (by rfl)
      · refine e_call' C_shortest_lock_cycle hr (by decide) (by rfl) (gl_by (by kernel_rfl)) tk ?_ (by decide +kernel) (by rfl) (by rfl) (by rfl)
        refine a_cons' (o := .fz) (ta := .vw .fz) ?_ ?_ (by rfl) (by rfl)
        · refine e_ty ⟨gl_by (by kernel_rfl), T.b_tuple⟩ (b_tuple) ?_ (by rfl) (by decide +kernel) (by decide +kernel) (by rfl) (by rfl)
          refine a_cons' (o := .bw) (ta := .vw .fz) ?_ ?_ (by rfl) (by rfl)
          · refine e_var (i := 2) (k := .ve .fz) nm_law_2 (by rfl)
          exact a_nil'
        refine a_cons' (o := .bw) (ta := .vw .fz) ?_ ?_ (by rfl) (by rfl)
        · refine e_ty ⟨gl_by (by kernel_rfl), T.b_tuple⟩ (b_tuple) ?_ (by rfl) (by decide +kernel) (by decide +kernel) (by rfl) (by rfl)
          refine a_cons' (o := .bw) (ta := .vw .fz) ?_ ?_ (by rfl) (by rfl)
          · refine e_var (i := 6) (k := .ve .fz) nm_law_6 (by rfl)
          exact a_nil'
        exact a_nil'
      refine a_cons' (o := .fz) (ta := .vw .fz) ?_ ?_ (by rfl) (by rfl)
      · refine e_call' C__law_due hr (by decide) (by rfl) (gl_by (by kernel_rfl)) tk ?_ (by decide +kernel) (by rfl) (by rfl) (by rfl)
        refine a_cons' (o := .fz) (ta := .vw .fz) ?_ ?_ (by rfl) (by rfl)
        · refine e_var (i := 2) (k := .ve .fz) nm_law_2 (by rfl)
        refine a_cons' (o := .fz) (ta := .vw .fz) ?_ ?_ (by rfl) (by rfl)
        · refine e_var (i := 6) (k := .ve .fz) nm_law_6 (by rfl)
        exact a_nil'
      exact a_nil'
    exact ss_nil'
  refine ss_cons' ?_ ?_
  · refine e_set' (ta := .vw .fz) (i := 5) lo_law_5 (by rfl) ?_ (by rfl) (by exact .inl rfl) (by rfl)
    refine e_call' C__law_due hr (by decide) (by rfl) (gl_by (by kernel_rfl)) tk ?_ (by decide +kernel) (by rfl) (by rfl) (by rfl)
    refine a_cons' (o := .fz) (ta := .vw .fz) ?_ ?_ (by rfl) (by rfl)
    · refine e_var (i := 2) (k := .ve .fz) nm_law_2 (by rfl)
    refine a_cons' (o := .fz) (ta := .vw .fz) ?_ ?_ (by rfl) (by rfl)
    · refine e_var (i := 3) (k := .ve .fz) nm_law_3 (by rfl)
    exact a_nil'
  refine ss_cons' ?_ ?_
  · refine st_if' ?_ ?_ ?_
    · refine PW.pt ?_
      refine w_or' ?_ ?_
      · refine t_not' ?_
        refine t_val (ta := .vw .fz) ?_ (by intro _; rfl) (by rfl)
        refine e_call' C__law_same hr (by decide) (by rfl) (gl_by (by kernel_rfl)) tk ?_ (by decide +kernel) (by rfl) (by rfl) (by rfl)
        refine a_cons' (o := .fz) (ta := .vw .fz) ?_ ?_ (by rfl) (by rfl)
        · refine e_call' C_shortest_lock_cycle hr (by decide) (by rfl) (gl_by (by kernel_rfl)) tk ?_ (by decide +kernel) (by rfl) (by rfl) (by rfl)
          refine a_cons' (o := .fz) (ta := .vw .fz) ?_ ?_ (by rfl) (by rfl)
          · refine e_ty ⟨gl_by (by kernel_rfl), T.b_tuple⟩ (b_tuple) ?_ (by rfl) (by decide +kernel) (by decide +kernel) (by rfl) (by rfl)
            refine a_cons' (o := .bw) (ta := .vw .fz) ?_ ?_ (by rfl) (by rfl)
            · refine e_var (i := 2) (k := .ve .fz) nm_law_2 (by rfl)
            exact a_nil'
          refine a_cons' (o := .bw) (ta := .vw .fz) ?_ ?_ (by rfl) (by rfl)
          · refine e_var (i := 4) (k := .ve .fz) nm_law_4 (by rfl)
          exact a_nil'
        refine a_cons' (o := .fz) (ta := .vw .fz) ?_ ?_ (by rfl) (by rfl)
        · refine e_var (i := 5) (k := .ve .fz) nm_law_5 (by rfl)
        exact a_nil'
      refine w_one ?_
      refine t_cmp' (ta := .fr (.lst .fz)) (tb := .vw .fz) (o_ne hu64 (by rfl)) ?_ ?_ (by rfl) (by rfl) (by rfl)
      · refine e_ty ⟨gl_by (by kernel_rfl), T.b_list⟩ (b_list) ?_ (by rfl) (by decide +kernel) (by decide +kernel) (by rfl) (by rfl)
        refine a_cons' (o := .bw) (ta := .vw .fz) ?_ ?_ (by rfl) (by rfl)
        · refine e_var (i := 4) (k := .ve .fz) nm_law_4 (by rfl)
        exact a_nil'
      refine e_var (i := 3) (k := .ve .fz) nm_law_3 (by rfl)
    · refine ss_cons' ?_ ?_
      · refine st_ret' (ta := .vw .fz) ?_ (by rfl)
        exact e_bl
      exact ss_nil'
    exact ss_nil'
  refine ss_cons' ?_ ?_
  · refine st_if' ?_ ?_ ?_
    · refine t_cmp' (ta := .vw .fz) (tb := .vw .fz) (o_eq hu64 (by rfl)) ?_ ?_ (by rfl) (by rfl) (by rfl)
      · refine e_bi ⟨gl_by (by kernel_rfl), T.b_len⟩ (b_len (by rfl)) ?_ (by rfl) (by decide +kernel) (by decide +kernel) (by rfl) (by rfl)
        refine a_cons' (o := .bw) (ta := .vw .fz) ?_ ?_ (by rfl) (by rfl)
        · refine e_var (i := 3) (k := .ve .fz) nm_law_3 (by rfl)
        exact a_nil'
      exact e_int
    · refine ss_cons' ?_ ?_
      · refine st_ret' (ta := .vw .fz) ?_ (by rfl)
        exact e_bl
      exact ss_nil'
    exact ss_nil'
  refine ss_cons' ?_ ?_
  · refine e_set' (ta := .vw .fz) (i := 6) lo_law_6 (by rfl) ?_ (by rfl) (by exact .inl rfl) (by rfl)
    refine s_sl' (o := .fz) (pl := none) (pu := (some (.vw .fz, (fC (.int (-1)))))) (by rfl) (by rfl) ?_ ?_ ?_ (by rfl) (fun _ h => nomatch h) (fun _ h => by cases h; rfl)
    · refine e_var (i := 3) (k := .ve .fz) nm_law_3 (by rfl)
    · refine PO_of (by trivial)
    refine PO_of ?_
    exact e_neg
  refine ss_cons' ?_ ?_
  · refine st_if' ?_ ?_ ?_
    · refine t_val (ta := .vw .fz) ?_ (by intro _; rfl) (by rfl)
      refine e_isi (t := .list) (ta := .vw .fz) ⟨gl_by (by kernel_rfl), T.b_isinstance⟩ ⟨gl_by (by kernel_rfl), T.b_list⟩ (by rfl) ?_ (by rfl) (by rfl) (by decide +kernel) (by decide +kernel) (by rfl)
      refine e_var (i := 4) (k := .ve .fz) nm_law_4 (by rfl)
    · refine ss_cons' ?_ ?_
      · exact st_never
      refine ss_cons' ?_ ?_
      · refine st_if' ?_ ?_ ?_
        · refine t_not' ?_
          refine t_val (ta := .vw .fz) ?_ (by intro _; rfl) (by rfl)
          refine e_call' C__law_same hr (by decide) (by rfl) (gl_by (by kernel_rfl)) tk ?_ (by decide +kernel) (by rfl) (by rfl) (by rfl)
          refine a_cons' (o := .fz) (ta := .vw .fz) ?_ ?_ (by rfl) (by rfl)
          · refine e_call' C_shortest_lock_cycle hr (by decide) (by rfl) (gl_by (by kernel_rfl)) tk ?_ (by decide +kernel) (by rfl) (by rfl) (by rfl)
            refine a_cons' (o := .fz) (ta := .vw .fz) ?_ ?_ (by rfl) (by rfl)
            · refine e_ty ⟨gl_by (by kernel_rfl), T.b_tuple⟩ (b_tuple) ?_ (by rfl) (by decide +kernel) (by decide +kernel) (by rfl) (by rfl)
              refine a_cons' (o := .bw) (ta := .vw .fz) ?_ ?_ (by rfl) (by rfl)
              · refine e_var (i := 2) (k := .ve .fz) nm_law_2 (by rfl)
              exact a_nil'
            refine a_cons' (o := .bw) (ta := .vw .fz) ?_ ?_ (by rfl) (by rfl)
            · refine e_var (i := 4) (k := .ve .fz) nm_law_4 (by rfl)
            exact a_nil'
          refine a_cons' (o := .fz) (ta := .vw .fz) ?_ ?_ (by rfl) (by rfl)
          · refine e_call' C__law_due hr (by decide) (by rfl) (gl_by (by kernel_rfl)) tk ?_ (by decide +kernel) (by rfl) (by rfl) (by rfl)
            refine a_cons' (o := .fz) (ta := .vw .fz) ?_ ?_ (by rfl) (by rfl)
            · refine e_var (i := 2) (k := .ve .fz) nm_law_2 (by rfl)
            refine a_cons' (o := .fz) (ta := .vw .fz) ?_ ?_ (by rfl) (by rfl)
            · refine e_var (i := 6) (k := .ve .fz) nm_law_6 (by rfl)
            exact a_nil'
          exact a_nil'
        · refine ss_cons' ?_ ?_
          · refine st_ret' (ta := .vw .fz) ?_ (by rfl)
            exact e_bl
          exact ss_nil'
        exact ss_nil'
      exact ss_nil'
    exact ss_nil'
  refine ss_cons' ?_ ?_
  · refine st_ret' (ta := .vw .fz) ?_ (by rfl)
    refine e_call' C__law_same hr (by decide) (by rfl) (gl_by (by kernel_rfl)) tk ?_ (by decide +kernel) (by rfl) (by rfl) (by rfl)
    refine a_cons' (o := .fz) (ta := .vw .fz) ?_ ?_ (by rfl) (by rfl)
    · refine e_call' C_shortest_lock_cycle hr (by decide) (by rfl) (gl_by (by kernel_rfl)) tk ?_ (by decide +kernel) (by rfl) (by rfl) (by rfl)
      refine a_cons' (o := .fz) (ta := .vw .fz) ?_ ?_ (by rfl) (by rfl)
      · refine e_ty ⟨gl_by (by kernel_rfl), T.b_tuple⟩ (b_tuple) ?_ (by rfl) (by decide +kernel) (by decide +kernel) (by rfl) (by rfl)
        refine a_cons' (o := .bw) (ta := .vw .fz) ?_ ?_ (by rfl) (by rfl)
        · refine e_var (i := 2) (k := .ve .fz) nm_law_2 (by rfl)
        exact a_nil'
      refine a_cons' (o := .bw) (ta := .vw .fz) ?_ ?_ (by rfl) (by rfl)
      · refine e_ty ⟨gl_by (by kernel_rfl), T.b_tuple⟩ (b_tuple) ?_ (by rfl) (by decide +kernel) (by decide +kernel) (by rfl) (by rfl)
        refine a_cons' (o := .bw) (ta := .vw .fz) ?_ ?_ (by rfl) (by rfl)
        · refine e_var (i := 6) (k := .ve .fz) nm_law_6 (by rfl)
        exact a_nil'
      exact a_nil'
    refine a_cons' (o := .fz) (ta := .vw .fz) ?_ ?_ (by rfl) (by rfl)
    · refine e_call' C__law_due hr (by decide) (by rfl) (gl_by (by kernel_rfl)) tk ?_ (by decide +kernel) (by rfl) (by rfl) (by rfl)
      refine a_cons' (o := .fz) (ta := .vw .fz) ?_ ?_ (by rfl) (by rfl)
      · refine e_var (i := 2) (k := .ve .fz) nm_law_2 (by rfl)
      refine a_cons' (o := .fz) (ta := .vw .fz) ?_ ?_ (by rfl) (by rfl)
      · refine e_var (i := 6) (k := .ve .fz) nm_law_6 (by rfl)
      exact a_nil'
    exact a_nil'
  exact ss_nil'
theorem facts {P : Program} {w : World} {K : PySem.W.Frag} {h : Heap} {mg : Str → Option Value} {f : Addr} (X : K.In h) (G : h.Ns mainGlobals mg) (hfa : mg ("law" : Str) = some (.ref f)) (c : SaysH fa fn ts pf ex w K) :
    ∃ fd : FuncData, (∀ (s : Shared) (v : Value), BindsTo s fd ⟨[v], []⟩ [("script", v)]) ∧ ∀ base : Heap, K.In base → base.Ns mainGlobals mg → FnOk P w K mg base (L2.CX P w) 3 f fd ["script"] (spE K sg_law φ_law) := by
  have T : Fx w K mg := ⟨He.free_ok X G (c.d.fact 0 (f := .free "len") (by rfl)), He.free_ok X G (c.d.fact 1 (f := .free "int") (by rfl)), He.free_ok X G (c.d.fact 2 (f := .free "abs") (by rfl)), He.free_ok X G (c.d.fact 3 (f := .free "range") (by rfl)), He.free_ok X G (c.d.fact 4 (f := .free "isinstance") (by rfl)), He.free_ok X G (c.d.fact 5 (f := .free "bool") (by rfl)), He.free_ok X G (c.d.fact 6 (f := .free "str") (by rfl)), He.free_ok X G (c.d.fact 7 (f := .free "tuple") (by rfl)), He.free_ok X G (c.d.fact 8 (f := .free "list") (by rfl)), He.free_ok X G (c.d.fact 9 (f := .free "zip") (by rfl))⟩
  obtain ⟨fd_longer_rows, D_longer_rows⟩ := c.d.def_ 0 (d := d_longer_rows) (by rfl)
  obtain ⟨fd_shortest_lock_cycle, D_shortest_lock_cycle⟩ := c.d.def_ 1 (d := d_shortest_lock_cycle) (by rfl)
  obtain ⟨fd_law_numbers, D_law_numbers⟩ := c.d.def_ 2 (d := d_law_numbers) (by rfl)
  obtain ⟨fd_law_names, D_law_names⟩ := c.d.def_ 3 (d := d_law_names) (by rfl)
  obtain ⟨fd_law_leaf, D_law_leaf⟩ := c.d.def_ 4 (d := d_law_leaf) (by rfl)
  obtain ⟨fd_law_same, D_law_same⟩ := c.d.def_ 5 (d := d_law_same) (by rfl)
  obtain ⟨fd_law_pairs, D_law_pairs⟩ := c.d.def_ 6 (d := d_law_pairs) (by rfl)
  obtain ⟨fd_law_circle, D_law_circle⟩ := c.d.def_ 7 (d := d_law_circle) (by rfl)
  obtain ⟨fd_law_due, D_law_due⟩ := c.d.def_ 8 (d := d_law_due) (by rfl)
  obtain ⟨fd_law, D_law⟩ := c.d.def_ 9 (d := d_law) (by rfl)
  have e := hfa.symm.trans (He.glo_ok X G (c.d.fact 19 (f := .glo "law") (by rfl)))
  cases e
  refine ⟨fd_law, fun s v => FunD.bindsA (ps := ["script"]) D_law (fun _ _ _ _ _ _ us hl => match us, hl with | [_], _ => rfl) s [v] rfl, fun base _ _ => ?_⟩
  have C_longer_rows : Cal P w K mg base "longer_rows" 1 sg_longer_rows φ_longer_rows := ok_longer_rows T D_longer_rows (He.glo_ok X G (c.d.fact 10 (f := .glo "longer_rows") (by rfl)))
  have C_shortest_lock_cycle : Cal P w K mg base "shortest_lock_cycle" 2 sg_shortest_lock_cycle φ_shortest_lock_cycle := ok_shortest_lock_cycle T C_longer_rows D_shortest_lock_cycle (He.glo_ok X G (c.d.fact 11 (f := .glo "shortest_lock_cycle") (by rfl)))
  have C__law_numbers : Cal P w K mg base "_law_numbers" 1 sg_law_numbers φ_law_numbers := ok_law_numbers T D_law_numbers (He.glo_ok X G (c.d.fact 12 (f := .glo "_law_numbers") (by rfl)))
  have C__law_names : Cal P w K mg base "_law_names" 1 sg_law_names φ_law_names := ok_law_names T D_law_names (He.glo_ok X G (c.d.fact 13 (f := .glo "_law_names") (by rfl)))
  have C__law_leaf : Cal P w K mg base "_law_leaf" 1 sg_law_leaf φ_law_leaf := ok_law_leaf T D_law_leaf (He.glo_ok X G (c.d.fact 14 (f := .glo "_law_leaf") (by rfl)))
  have C__law_same : Cal P w K mg base "_law_same" 2 sg_law_same φ_law_same := ok_law_same T C__law_leaf D_law_same (He.glo_ok X G (c.d.fact 15 (f := .glo "_law_same") (by rfl)))
  have C__law_pairs : Cal P w K mg base "_law_pairs" 2 sg_law_pairs φ_law_pairs := ok_law_pairs T C__law_numbers D_law_pairs (He.glo_ok X G (c.d.fact 16 (f := .glo "_law_pairs") (by rfl)))
  have C__law_circle : Cal P w K mg base "_law_circle" 2 sg_law_circle φ_law_circle := ok_law_circle T C__law_numbers D_law_circle (He.glo_ok X G (c.d.fact 17 (f := .glo "_law_circle") (by rfl)))
  have C__law_due : Cal P w K mg base "_law_due" 1 sg_law_due φ_law_due := ok_law_due T D_law_due (He.glo_ok X G (c.d.fact 18 (f := .glo "_law_due") (by rfl)))
  exact def_ok D_law sc_law rfl rfl (by decide) rfl (body_law T C__law_numbers C__law_names C__law_pairs C__law_circle C__law_due C_shortest_lock_cycle C__law_same)
end Z

set_option maxHeartbeats 4000000
namespace Q
open PySem PySem.Spec PyProof.Rows
abbrev sp : Str := " "
abbrev nl : Str := "\n"
def flat (c : Nat) (l : List Str) : List Nat := l.flatMap fun b => c :: b.cps.toList
theorem join_list (c : Nat) : ∀ (l : List Str) (a : Str), (Str.join ⟨#[c]⟩ (a :: l)).cps.toList = a.cps.toList ++ flat c l
  | [], a => by simp [Str.join, flat]
  | b :: l, a => by
    have ih := join_list c l b
    show (a.cps ++ #[c] ++ (Str.join ⟨#[c]⟩ (b :: l)).cps).toList = _
    rw [Array.toList_append, Array.toList_append, ih]
    simp [flat]
theorem cut_eq {c : Nat} : ∀ {a b s t : List Nat}, c ∉ a → c ∉ b → a ++ c :: s = b ++ c :: t → a = b ∧ s = t
  | [], [], s, t, _, _, h => by simp at h; exact ⟨rfl, h⟩
  | [], y :: b, s, t, _, hb, h => by simp at h; exact absurd (by simp [h.1]) hb
  | x :: a, [], s, t, ha, _, h => by simp at h; exact absurd (by simp [h.1]) ha
  | x :: a, y :: b, s, t, ha, hb, h => by
    simp at h
    obtain ⟨e1, e2⟩ := cut_eq (a := a) (b := b) (fun q => ha (List.mem_cons_of_mem _ q)) (fun q => hb (List.mem_cons_of_mem _ q)) h.2
    exact ⟨by rw [h.1, e1], e2⟩
theorem str_ext {a b : Str} (h : a.cps.toList = b.cps.toList) : a = b := Str.ext' (Array.toList_inj.mp h)
theorem flat_inj {c : Nat} : ∀ {l m : List Str} {a b : Str}, (∀ x ∈ a :: l, c ∉ x.cps.toList) → (∀ x ∈ b :: m, c ∉ x.cps.toList) → a.cps.toList ++ flat c l = b.cps.toList ++ flat c m → a :: l = b :: m
  | [], [], a, b, _, _, h => by simp only [flat, List.flatMap_nil, List.append_nil] at h; rw [str_ext h]
  | [], y :: m, a, b, ha, _, h => by
    simp only [flat, List.flatMap_nil, List.append_nil, List.flatMap_cons, List.cons_append] at h
    exact absurd (by rw [h]; simp) (ha a (List.mem_cons_self ..))
  | x :: l, [], a, b, _, hb, h => by
    simp only [flat, List.flatMap_nil, List.append_nil, List.flatMap_cons, List.cons_append] at h
    exact absurd (by rw [← h]; simp) (hb b (List.mem_cons_self ..))
  | x :: l, y :: m, a, b, ha, hb, h => by
    simp only [flat, List.flatMap_cons, List.cons_append] at h
    obtain ⟨e1, e2⟩ := cut_eq (ha a (List.mem_cons_self ..)) (hb b (List.mem_cons_self ..)) h
    rw [str_ext e1, flat_inj (fun z hz => ha z (List.mem_cons_of_mem _ hz)) (fun z hz => hb z (List.mem_cons_of_mem _ hz)) e2]
theorem split_ne (x y : Str) : Txt.split x y ≠ [] := by
  unfold Txt.split
  split
  · exact List.cons_ne_nil _ _
  · split
    · exact List.cons_ne_nil _ _
    · rw [StrLaws.partsBetween_eq]
      obtain ⟨p, r, e⟩ := StrLaws.partsFrom_ne x y.length 0 (Builtin.Str.occurrences x y 0 x.length (x.length + 1))
      rw [e]; exact List.cons_ne_nil _ _
theorem split_join {c : Nat} {a : Str} {l : List Str} (h : ∀ x ∈ a :: l, c ∉ x.cps.toList) : Txt.split (Str.join ⟨#[c]⟩ (a :: l)) ⟨#[c]⟩ = a :: l := by
  have e := StrLaws.join_split (Str.join ⟨#[c]⟩ (a :: l)) ⟨#[c]⟩
  have f := StrLaws.split_free (Str.join ⟨#[c]⟩ (a :: l)) c
  cases q : Txt.split (Str.join ⟨#[c]⟩ (a :: l)) ⟨#[c]⟩ with
  | nil =>
    exact absurd q (split_ne _ _)
  | cons b m =>
    rw [q] at e f
    refine (flat_inj h f ?_).symm
    rw [← join_list, ← join_list, e]
theorem sp_eq : sp = ⟨#[32]⟩ := by decide +kernel
theorem nl_eq : nl = ⟨#[10]⟩ := by decide +kernel
theorem len_join_le (c : Nat) (B : Nat) : ∀ (l : List Str), (∀ x ∈ l, x.length ≤ B) → (Str.join ⟨#[c]⟩ l).length ≤ l.length * (B + 1)
  | [], _ => by simp [Str.join, Str.empty, Str.length]
  | [a], h => by have := h a (List.mem_cons_self ..); simp [Str.join]; omega
  | a :: b :: r, h => by
    have ih := len_join_le c B (b :: r) fun x hx => h x (List.mem_cons_of_mem _ hx)
    have ha := h a (List.mem_cons_self ..)
    show (a ++ ⟨#[c]⟩ ++ Str.join ⟨#[c]⟩ (b :: r)).length ≤ _
    rw [Str.length_append, Str.length_append]
    have : (⟨#[c]⟩ : Str).length = 1 := rfl
    simp only [List.length_cons] at ih ⊢
    rw [this]
    have e : (r.length + 1 + 1) * (B + 1) = (r.length + 1) * (B + 1) + (B + 1) := by rw [Nat.add_mul]; omega
    omega
theorem mem_join {c q : Nat} : ∀ (l : List Str), q ∈ (Str.join ⟨#[c]⟩ l).cps.toList → q = c ∨ ∃ x ∈ l, q ∈ x.cps.toList
  | [], h => by simp [Str.join, Str.empty] at h
  | a :: l, h => by
    rw [join_list] at h
    rcases List.mem_append.mp h with h | h
    · exact .inr ⟨a, List.mem_cons_self .., h⟩
    · simp only [flat, List.mem_flatMap, List.mem_cons] at h
      obtain ⟨b, hb, h | h⟩ := h
      · exact .inl h
      · exact .inr ⟨b, List.mem_cons_of_mem _ hb, h⟩
theorem strOk_of {x : Str} (h : ∀ q ∈ x.cps.toList, q < 0x110000) : PyData.strOk x = true := by
  unfold PyData.strOk
  rw [Array.all_eq_true_iff_forall_mem]
  intro q hq
  exact decide_eq_true (h q (by simpa using hq))
/-- a word: 1 to 8 small letters -/
abbrev al : Str := "abcdefghijklmnopqrstuvwxyz"
abbrev inAl (q : Nat) : Bool := decide (q ∈ al.cps.toList)
def nameB (w : Str) : Bool := decide (1 ≤ w.length) && decide (w.length ≤ 8) && w.cps.toList.all inAl
theorem al_lo {q : Nat} (h : inAl q = true) : 97 ≤ q ∧ q ≤ 122 := by
  have h1 : q ∈ al.cps.toList := of_decide_eq_true h
  have e : ∀ q ∈ al.cps.toList, 97 ≤ q ∧ q ≤ 122 := by decide +kernel
  exact e q h1
structure Wd (w : Str) : Prop where
  lo : 1 ≤ w.length
  hi : w.length ≤ 8
  al : ∀ q ∈ w.cps.toList, 97 ≤ q ∧ q ≤ 122
theorem wd_of {w : Str} (h : nameB w = true) : Wd w := by
  unfold nameB at h
  rw [Bool.and_eq_true, Bool.and_eq_true, List.all_eq_true] at h
  exact ⟨of_decide_eq_true h.1.1, of_decide_eq_true h.1.2, fun q hq => al_lo (h.2 q hq)⟩
theorem Wd.ok {w : Str} (h : Wd w) : PyData.strOk w = true := strOk_of fun q hq => by have := h.al q hq; omega
/-- a line: its words -/
def ln (ws : List Str) : Str := Str.join sp ws
theorem ln_len {l : List Str} (h : ∀ x ∈ l, Wd x) : (ln l).length ≤ l.length * 9 := by
  unfold ln
  rw [sp_eq]
  exact len_join_le 32 8 l fun x hx => (h x hx).hi
theorem ln_mem {l : List Str} (h : ∀ x ∈ l, Wd x) {q : Nat} (hq : q ∈ (ln l).cps.toList) : q = 32 ∨ (97 ≤ q ∧ q ≤ 122) := by
  unfold ln at hq
  rw [sp_eq] at hq
  rcases mem_join l hq with h1 | ⟨x, hx, h1⟩
  · exact .inl h1
  · exact .inr ((h x hx).al q h1)
theorem ln_no10 {l : List Str} (h : ∀ x ∈ l, Wd x) : 10 ∉ (ln l).cps.toList := fun hq => by have := ln_mem h hq; omega
/-- a text: its lines -/
def tx (ls : List (List Str)) : Str := Str.join nl (ls.map ln)
theorem tx_split {a : List Str} {l : List (List Str)} (h : ∀ x ∈ a :: l, ∀ w ∈ x, Wd w) : Txt.split (tx (a :: l)) nl = (a :: l).map ln := by
  unfold tx
  rw [nl_eq, List.map_cons]
  refine split_join fun x hx => ?_
  rw [← List.map_cons (f := ln)] at hx
  obtain ⟨y, hy, rfl⟩ := List.mem_map.mp hx
  exact ln_no10 (h y hy)
theorem tx_len {ls : List (List Str)} (B : Nat) (h : ∀ x ∈ ls, ∀ w ∈ x, Wd w) (hB : ∀ x ∈ ls, x.length ≤ B) : (tx ls).length ≤ ls.length * (B * 9 + 1) := by
  unfold tx
  rw [nl_eq]
  have := len_join_le 10 (B * 9) (ls.map ln) fun x hx => by
    obtain ⟨y, hy, rfl⟩ := List.mem_map.mp hx
    have h1 := ln_len (h y hy)
    have h2 := Nat.mul_le_mul_right 9 (hB y hy)
    omega
  rw [List.length_map] at this
  exact this
end Q

set_option maxHeartbeats 4000000
namespace Q
open PySem PySem.Spec PyProof.Rows
structure Hk where
  n : Str
  late : Bool
  cbs : List Str
structure Rt where
  n : Str
  rows : List (Str × Str)
structure Lb where
  locks : List Str
  hooks : List Hk
  routs : List Rt
  ents : List Str
abbrev Hk.wd (h : Hk) : Str := if h.late then "deferred" else "hook"
def Hk.ws (h : Hk) : List Str := h.wd :: h.n :: h.cbs
abbrev rws (p : Str × Str) : List Str := [p.1, p.2]
def Rt.ws (r : Rt) : List (List Str) := ["routine", r.n] :: (r.rows.map rws ++ [(["end"] : List Str)])
def lw (x : Str) : List Str := ["lock", x]
def ew (x : Str) : List Str := ["entry", x]
def Lb.ws (L : Lb) : List (List Str) := L.locks.map lw ++ (L.hooks.map Hk.ws ++ (L.routs.flatMap Rt.ws ++ L.ents.map ew))
def Lb.text (L : Lb) : Str := tx L.ws
structure Ctx where
  locks : List Str
  hooks : List Str
  rts : List Str
  lens : List (Str × Int)
def stm (C : Ctx) (tk : List Str) (c : Int) (w x : Str) : Option (List Str × Int) :=
  if w = "acquire" then (if x ∈ C.locks then some (tk ++ [x], c + 1) else none)
  else if w = "release" then (if x ∈ C.locks ∧ tk.getLast? = some x then some (tk.dropLast, c + 1) else none)
  else if w = "call" then (C.lens.lookup x).map fun k => (tk, c + k + 1)
  else if w = "invoke" then (if x ∈ C.hooks then some (tk, c + 1) else none)
  else if w = "maybe" then (if x ∈ C.rts then some (tk, c + 1) else none) else none
def stms (C : Ctx) : List Str → Int → List (Str × Str) → Option (List Str × Int)
  | tk, c, [] => some (tk, c)
  | tk, c, (w, x) :: r => (stm C tk c w x).bind fun q => stms C q.1 q.2 r
def BodyOk (C : Ctx) (rows : List (Str × Str)) (c : Int) : Prop := stms C [] 0 rows = some ([], c) ∧ rows.length ≤ 10 ∧ c + 1 ≤ 60
def RoutsOk (lk hk rn : List Str) : List (Str × Int) → List Rt → Prop
  | _, [] => True
  | le, r :: rs => ∃ c, BodyOk ⟨lk, hk, rn, le⟩ r.rows c ∧ RoutsOk lk hk rn (le ++ [(r.n, c + 1)]) rs
structure Lb.Good (L : Lb) : Prop where
  nm : ∀ x ∈ L.locks ++ (L.hooks.map Hk.n ++ L.routs.map Rt.n), nameB x = true
  nd : (L.locks ++ (L.hooks.map Hk.n ++ L.routs.map Rt.n)).Nodup
  l5 : L.locks.length ≤ 5
  h4 : L.hooks.length ≤ 4
  r5 : L.routs.length ≤ 5
  cb : ∀ h ∈ L.hooks, h.cbs.Nodup ∧ h.cbs.length ≤ 5 ∧ ∀ x ∈ h.cbs, x ∈ L.routs.map Rt.n
  en : L.ents.Nodup ∧ L.ents.length ≤ 5 ∧ ∀ x ∈ L.ents, x ∈ L.routs.map Rt.n
  bo : RoutsOk L.locks (L.hooks.map Hk.n) (L.routs.map Rt.n) [] L.routs
structure RS where
  known : List Str
  locks : List Str
  hooks : List Hk
  routs : List Rt
  ents : List Str
  lens : List (Str × Int)
  exp : List (Int × Str)
  part : Int
  cur : Option Str
  body : List (Str × Str)
  taken : List Str
  cost : Int
def RS.ctx (s : RS) (rts : List Str) : Ctx := ⟨s.locks, s.hooks.map Hk.n, rts, s.lens⟩
def rdE (num : Int) (cbs : List Str) : List (Int × Str) := cbs.map fun x => (num, x)
/-- one line, read; rts: the names that a maybe may have -/
def rd (rts : List Str) (s : RS) (num : Int) : List Str → Option RS
  | w :: x :: cbs =>
    if w = "lock" then (if s.cur = none ∧ s.part = 0 ∧ x ∉ s.known ∧ cbs = [] ∧ s.locks.length < 5 ∧ s.hooks.length ≤ 4 ∧ s.routs.length ≤ 5 then some { s with known := s.known ++ [x], locks := s.locks ++ [x], part := 0 } else none)
    else if w = "hook" ∨ w = "deferred" then (if s.cur = none ∧ s.part ≤ 1 ∧ x ∉ s.known ∧ cbs.Nodup ∧ cbs.length ≤ 5 ∧ s.locks.length ≤ 5 ∧ s.hooks.length < 4 ∧ s.routs.length ≤ 5 ∧ s.exp.length ≤ 1000 then some { s with known := s.known ++ [x], hooks := s.hooks ++ [⟨x, decide (w = "deferred"), cbs⟩], exp := s.exp ++ rdE num cbs, part := 1 } else none)
    else if w = "routine" then (if s.cur = none ∧ s.part ≤ 2 ∧ x ∉ s.known ∧ cbs = [] ∧ s.locks.length ≤ 5 ∧ s.hooks.length ≤ 4 ∧ s.routs.length < 5 then some { s with known := s.known ++ [x], part := 2, cur := some x, body := [], taken := [], cost := 0 } else none)
    else if w = "entry" then (if s.cur = none ∧ s.part ≤ 3 ∧ x ∈ s.lens.map (·.1) ∧ x ∉ s.ents ∧ cbs = [] ∧ s.ents.length ≤ 1000 then some { s with part := 3, ents := s.ents ++ [x] } else none)
    else if s.cur = none ∨ cbs ≠ [] ∨ 10 ≤ s.body.length ∨ 1000 < s.exp.length ∨ 1000 < s.taken.length then none else
      (stm (s.ctx rts) s.taken s.cost w x).map fun q => { s with taken := q.1, cost := q.2, body := s.body ++ [(w, x)], exp := if w = "maybe" then s.exp ++ [(num, x)] else s.exp }
  | [w] => match s.cur with
    | none => none
    | some x => if w = "end" ∧ s.taken = [] ∧ s.cost + 1 ≤ 60 ∧ x ∉ s.lens.map (·.1) ∧ s.routs.length ≤ 5 ∧ s.lens.length ≤ 5 then some { s with lens := s.lens ++ [(x, s.cost + 1)], routs := s.routs ++ [⟨x, s.body⟩], cur := none } else none
  | [] => none
def rds (rts : List Str) : RS → Int → List (List Str) → Option RS
  | s, _, [] => some s
  | s, n, l :: ls => (rd rts s n l).bind fun s' => rds rts s' (n + 1) ls
theorem rds_app (rts : List Str) : ∀ (a b : List (List Str)) (s : RS) (n : Int), rds rts s n (a ++ b) = (rds rts s n a).bind fun s' => rds rts s' (n + a.length) b
  | [], b, s, n => by simp [rds]
  | l :: a, b, s, n => by
    simp only [List.cons_append, rds]
    cases rd rts s n l with
    | none => rfl
    | some q =>
      simp only [Option.bind_some]
      rw [rds_app rts a b q (n + 1), List.length_cons]
      congr 1
      funext s'
      congr 1
      omega
def rs0 : RS := ⟨[], [], [], [], [], [], [], 0, none, [], [], 0⟩
theorem rds_locks (rts : List Str) : ∀ (l : List Str) (s : RS) (n : Int), s.cur = none → s.part = 0 → (∀ x ∈ l, x ∉ s.known) → l.Nodup → s.locks.length + l.length ≤ 5 → s.hooks.length ≤ 4 → s.routs.length ≤ 5 →
    rds rts s n (l.map lw) = some { s with known := s.known ++ l, locks := s.locks ++ l }
  | [], s, n, _, _, _, _, _, _, _ => by simp [rds]
  | x :: l, s, n, h1, h2, h3, h4, h5, h6, h7 => by
    rw [List.nodup_cons] at h4
    have e : rd rts s n (lw x) = some { s with known := s.known ++ [x], locks := s.locks ++ [x], part := 0 } := by
      simp only [lw, rd, if_true]
      rw [if_pos ⟨h1, h2, h3 x (List.mem_cons_self ..), trivial, by simp only [List.length_cons] at h5; omega, h6, h7⟩]
    simp only [List.map_cons, rds, e, Option.bind_some]
    rw [rds_locks rts l { s with known := s.known ++ [x], locks := s.locks ++ [x], part := 0 } (n + 1) h1 rfl ?_ h4.2 ?_ h6 h7]
    · simp [h2]
    · intro y hy
      simp only [List.mem_append, List.mem_singleton, not_or]
      exact ⟨h3 y (List.mem_cons_of_mem _ hy), fun e => h4.1 (e ▸ hy)⟩
    · simp only [List.length_append, List.length_cons, List.length_nil] at h5 ⊢; omega
theorem rds_hooks (rts : List Str) : ∀ (l : List Hk) (s : RS) (n : Int), s.cur = none → s.part ≤ 1 → (∀ x ∈ l.map Hk.n, x ∉ s.known) → (l.map Hk.n).Nodup → s.locks.length ≤ 5 → s.hooks.length + l.length ≤ 4 → s.routs.length ≤ 5 →
    (∀ h ∈ l, h.cbs.Nodup ∧ h.cbs.length ≤ 5 ∧ ∀ x ∈ h.cbs, x ∈ rts) → s.exp.length ≤ 5 * s.hooks.length → (∀ e ∈ s.exp, e.2 ∈ rts) →
    ∃ p e, rds rts s n (l.map Hk.ws) = some { s with known := s.known ++ l.map Hk.n, hooks := s.hooks ++ l, exp := e, part := p } ∧ p ≤ 1 ∧ e.length ≤ 5 * (s.hooks.length + l.length) ∧ ∀ q ∈ e, q.2 ∈ rts
  | [], s, n, h1, h2, h3, h4, h5, h6, h7, h8, h9, h10 => ⟨s.part, s.exp, by simp [rds], h2, by simpa using h9, h10⟩
  | h :: l, s, n, h1, h2, h3, h4, h5, h6, h7, h8, h9, h10 => by
    rw [List.map_cons, List.nodup_cons] at h4
    obtain ⟨c1, c2, c3⟩ := h8 h (List.mem_cons_self ..)
    have hx : h.n ∉ s.known := h3 h.n (by simp)
    have hl : s.hooks.length < 4 := by simp only [List.length_cons] at h6; omega
    have e : rd rts s n h.ws = some { s with known := s.known ++ [h.n], hooks := s.hooks ++ [h], exp := s.exp ++ rdE n h.cbs, part := 1 } := by
      obtain ⟨nm, late, cbs⟩ := h
      have a1 : ((if late then "deferred" else "hook" : Str) = "lock") = False := by cases late <;> exact eq_false (by decide +kernel)
      have a2 : ((if late then "deferred" else "hook" : Str) = "hook" ∨ (if late then "deferred" else "hook" : Str) = "deferred") = True := by cases late <;> exact eq_true (by decide +kernel)
      have a3 : decide ((if late then "deferred" else "hook" : Str) = "deferred") = late := by cases late <;> decide +kernel
      simp only [Hk.ws, rd, a1, a2, a3, if_true, if_false]
      rw [if_pos ⟨h1, h2, hx, c1, c2, h5, hl, h7, by omega⟩]
    simp only [List.map_cons, rds, e, Option.bind_some]
    obtain ⟨p, e2, q1, q2, q3, q4⟩ := rds_hooks rts l { s with known := s.known ++ [h.n], hooks := s.hooks ++ [h], exp := s.exp ++ rdE n h.cbs, part := 1 } (n + 1) h1 (Int.le_refl _) (by
      intro y hy
      simp only [List.mem_append, List.mem_singleton, not_or]
      exact ⟨h3 y (by simp only [List.map_cons, List.mem_cons]; exact .inr hy), fun e => h4.1 (e ▸ hy)⟩) h4.2 h5 (by simp only [List.length_append, List.length_cons, List.length_nil] at h6 ⊢; omega) h7 (fun k hk => h8 k (List.mem_cons_of_mem _ hk))
      (by simp only [List.length_append, List.length_cons, List.length_nil, rdE, List.length_map]; omega) (by
        intro q hq
        rcases List.mem_append.mp hq with hq | hq
        · exact h10 q hq
        · obtain ⟨z, hz, rfl⟩ := List.mem_map.mp hq
          exact c3 z hz)
    refine ⟨p, e2, ?_, q2, ?_, q4⟩
    · rw [q1]; simp
    · simp only [List.length_append, List.length_cons, List.length_nil] at q3 ⊢; omega
theorem exp_len (w : Str) (n : Int) (y : Str) (l : List (Int × Str)) : (if w = "maybe" then l ++ [(n, y)] else l).length ≤ l.length + 1 := by split <;> simp
theorem rds_body (rts : List Str) : ∀ (l : List (Str × Str)) (s : RS) (n : Int) (x : Str) (C : Ctx) (tk' : List Str) (c' : Int), s.cur = some x → C = s.ctx rts → stms C s.taken s.cost l = some (tk', c') → s.body.length + l.length ≤ 10 → s.taken.length ≤ s.body.length → s.exp.length ≤ 900 + s.body.length → (∀ e ∈ s.exp, e.2 ∈ rts) →
    ∃ e, rds rts s n (l.map rws) = some { s with exp := e, body := s.body ++ l, taken := tk', cost := c' } ∧ e.length ≤ s.exp.length + l.length ∧ ∀ q ∈ e, q.2 ∈ rts
  | [], s, n, x, C, tk', c', h1, hC, h2, h3, h4, h5, h6 => by
    simp only [stms, Option.some.injEq, Prod.mk.injEq] at h2
    obtain ⟨rfl, rfl⟩ := h2
    exact ⟨s.exp, by simp [rds], by simp, h6⟩
  | (w, y) :: l, s, n, x, C, tk', c', h1, hC, h2, h3, h4, h5, h6 => by
    simp only [stms] at h2
    cases q : stm C s.taken s.cost w y with
    | none => rw [q] at h2; cases h2
    | some q2 =>
      rw [q, Option.bind_some] at h2
      simp only [List.length_cons] at h3
      have w1 : w = "acquire" ∨ w = "release" ∨ w = "call" ∨ w = "invoke" ∨ (w = "maybe" ∧ y ∈ rts) := by
        unfold stm at q
        split at q
        · exact .inl ‹_›
        · split at q
          · exact .inr (.inl ‹_›)
          · split at q
            · exact .inr (.inr (.inl ‹_›))
            · split at q
              · exact .inr (.inr (.inr (.inl ‹_›)))
              · split at q
                · rename_i hw
                  split at q
                  · rename_i hy
                    subst hC
                    exact .inr (.inr (.inr (.inr ⟨hw, hy⟩)))
                  · cases q
                · cases q
      have tl : q2.1.length ≤ s.taken.length + 1 := by
        unfold stm at q
        split at q
        · split at q <;> cases q; simp
        · split at q
          · split at q <;> cases q; simp; omega
          · split at q
            · obtain ⟨k, _, rfl⟩ := Option.map_eq_some_iff.mp q; simp
            · split at q
              · split at q <;> cases q; simp
              · split at q
                · split at q <;> cases q; simp
                · cases q
      have nw : (w = "lock") = False ∧ (w = "hook" ∨ w = "deferred") = False ∧ (w = "routine") = False ∧ (w = "entry") = False := by
        rcases w1 with rfl | rfl | rfl | rfl | ⟨rfl, _⟩ <;> exact ⟨eq_false (by decide +kernel), eq_false (by decide +kernel), eq_false (by decide +kernel), eq_false (by decide +kernel)⟩
      have e : rd rts s n [w, y] = some { s with taken := q2.1, cost := q2.2, body := s.body ++ [(w, y)], exp := if w = "maybe" then s.exp ++ [(n, y)] else s.exp } := by
        simp only [rd, nw.1, nw.2.1, nw.2.2.1, nw.2.2.2, if_false]
        rw [if_neg, ← hC, q]
        · rfl
        · simp only [h1, reduceCtorEq, ne_eq, not_true_eq_false, false_or]
          omega
      simp only [List.map_cons, rds, e, Option.bind_some]
      obtain ⟨e2, r1, r2, r3⟩ := rds_body rts l { s with taken := q2.1, cost := q2.2, body := s.body ++ [(w, y)], exp := if w = "maybe" then s.exp ++ [(n, y)] else s.exp } (n + 1) x C tk' c' h1 hC h2
        (by simp only [List.length_append, List.length_cons, List.length_nil]; omega) (by simp only [List.length_append, List.length_cons, List.length_nil]; omega)
        (by
          have := exp_len w n y s.exp
          simp only [List.length_append, List.length_cons, List.length_nil]; omega)
        (by
          intro z hz
          rcases w1 with rfl | rfl | rfl | rfl | ⟨rfl, hy⟩
          · exact h6 z (by simpa [show ((("acquire" : Str) = "maybe") = False) from eq_false (by decide +kernel)] using hz)
          · exact h6 z (by simpa [show ((("release" : Str) = "maybe") = False) from eq_false (by decide +kernel)] using hz)
          · exact h6 z (by simpa [show ((("call" : Str) = "maybe") = False) from eq_false (by decide +kernel)] using hz)
          · exact h6 z (by simpa [show ((("invoke" : Str) = "maybe") = False) from eq_false (by decide +kernel)] using hz)
          · simp only [if_true] at hz
            rcases List.mem_append.mp hz with hz | hz
            · exact h6 z hz
            · rw [List.mem_singleton.mp hz]; exact hy)
      refine ⟨e2, ?_, ?_, r3⟩
      · rw [r1]; simp
      · simp only [List.length_cons]
        have := exp_len w n y s.exp
        have r2 : e2.length ≤ (if w = "maybe" then s.exp ++ [(n, y)] else s.exp).length + l.length := r2
        omega
theorem rds_routs (rts lk hk : List Str) : ∀ (l : List Rt) (s : RS) (n : Int), s.cur = none → s.part ≤ 2 → (∀ x ∈ l.map Rt.n, x ∉ s.known) → (l.map Rt.n).Nodup → s.locks = lk → s.hooks.map Hk.n = hk → lk.length ≤ 5 → hk.length ≤ 4 → s.routs.length + l.length ≤ 5 →
    s.lens.map (·.1) = s.routs.map Rt.n → (∀ x ∈ s.routs.map Rt.n, x ∈ s.known) → RoutsOk lk hk rts s.lens l → s.exp.length ≤ 20 + 10 * s.routs.length → (∀ e ∈ s.exp, e.2 ∈ rts) →
    ∃ s', rds rts s n (l.flatMap Rt.ws) = some s' ∧ s'.locks = s.locks ∧ s'.hooks = s.hooks ∧ s'.routs = s.routs ++ l ∧ s'.ents = s.ents ∧ s'.cur = none ∧ s'.part ≤ 2 ∧ s'.lens.map (·.1) = s'.routs.map Rt.n ∧ ∀ q ∈ s'.exp, q.2 ∈ rts
  | [], s, n, h1, h2, h3, h4, h5, h6, h7, h8, h9, h10, h11, h12, h13, h14 => ⟨s, by simp [rds], rfl, rfl, by simp, rfl, h1, h2, h10, h14⟩
  | r :: l, s, n, h1, h2, h3, h4, h5, h6, h7, h8, h9, h10, h11, h12, h13, h14 => by
    obtain ⟨c, ⟨b1, b2, b3⟩, h12⟩ := h12
    rw [List.map_cons, List.nodup_cons] at h4
    simp only [List.length_cons] at h9
    have hx : r.n ∉ s.known := h3 r.n (by simp)
    have hh : s.hooks.length ≤ 4 := by rw [← h6, List.length_map] at h8; exact h8
    have w0 : ((("routine" : Str) = "lock") = False) ∧ ((("routine" : Str) = "hook" ∨ ("routine" : Str) = "deferred") = False) := ⟨eq_false (by decide +kernel), eq_false (by decide +kernel)⟩
    have e : rd rts s n ["routine", r.n] = some { s with known := s.known ++ [r.n], part := 2, cur := some r.n, body := [], taken := [], cost := 0 } := by
      simp only [rd, w0.1, w0.2, if_true, if_false]
      rw [if_pos ⟨h1, h2, hx, trivial, by rw [h5]; exact h7, hh, by omega⟩]
    obtain ⟨e2, r1, r2, r3⟩ := rds_body rts r.rows { s with known := s.known ++ [r.n], part := 2, cur := some r.n, body := [], taken := [], cost := 0 } (n + 1) r.n ⟨lk, hk, rts, s.lens⟩ [] c rfl (by simp only [RS.ctx, h5, h6]) b1 (by simpa using b2) (by simp) (by simp only [List.length_nil]; omega) h14
    have e3 : ∀ m, rd rts { s with known := s.known ++ [r.n], part := 2, cur := some r.n, body := [] ++ r.rows, taken := [], cost := c, exp := e2 } m ["end"] = some { s with known := s.known ++ [r.n], part := 2, cur := none, body := r.rows, taken := [], cost := c, exp := e2, lens := s.lens ++ [(r.n, c + 1)], routs := s.routs ++ [r] } := by
      intro m
      simp only [rd]
      rw [if_pos ⟨trivial, trivial, b3, by rw [h10]; exact fun q => hx (h11 _ q), by omega, by rw [← List.length_map (f := (·.1)), h10, List.length_map]; omega⟩]
      simp
    obtain ⟨s', q1, q2, q3, q4, q5, q6, q7, q8, q9⟩ := rds_routs rts lk hk l { s with known := s.known ++ [r.n], part := 2, cur := none, body := r.rows, taken := [], cost := c, exp := e2, lens := s.lens ++ [(r.n, c + 1)], routs := s.routs ++ [r] } (n + r.ws.length) rfl (Int.le_refl _)
      (by
        intro y hy
        simp only [List.mem_append, List.mem_singleton, not_or]
        exact ⟨h3 y (by simp only [List.map_cons, List.mem_cons]; exact .inr hy), fun e => h4.1 (e ▸ hy)⟩) h4.2 h5 h6 h7 h8 (by simp only [List.length_append, List.length_cons, List.length_nil]; omega)
      (by simp [h10]) (by
        intro y hy
        simp only [List.map_append, List.map_cons, List.map_nil, List.mem_append, List.mem_singleton] at hy ⊢
        exact hy.imp (h11 y) id) h12 (by simp only [List.length_append, List.length_cons, List.length_nil] at r2 ⊢; omega) r3
    refine ⟨s', ?_, q2, q3, by rw [q4]; simp, q5, q6, q7, q8, q9⟩
    rw [List.flatMap_cons, rds_app]
    have : rds rts s n r.ws = some { s with known := s.known ++ [r.n], part := 2, cur := none, body := r.rows, taken := [], cost := c, exp := e2, lens := s.lens ++ [(r.n, c + 1)], routs := s.routs ++ [r] } := by
      simp only [Rt.ws, rds, e, Option.bind_some]
      rw [rds_app, r1]
      simp only [Option.bind_some, rds]
      rw [e3]
      rfl
    rw [this]
    exact q1
theorem rds_ents (rts : List Str) : ∀ (l : List Str) (s : RS) (n : Int), s.cur = none → s.part ≤ 3 → (∀ x ∈ l, x ∉ s.ents) → l.Nodup → (∀ x ∈ l, x ∈ s.lens.map (·.1)) → s.ents.length + l.length ≤ 1000 →
    ∃ p, rds rts s n (l.map ew) = some { s with ents := s.ents ++ l, part := p }
  | [], s, n, _, _, _, _, _, _ => ⟨s.part, by simp [rds]⟩
  | x :: l, s, n, h1, h2, h3, h4, h5, h6 => by
    rw [List.nodup_cons] at h4
    simp only [List.length_cons] at h6
    have w0 : ((("entry" : Str) = "lock") = False) ∧ ((("entry" : Str) = "hook" ∨ ("entry" : Str) = "deferred") = False) ∧ ((("entry" : Str) = "routine") = False) := ⟨eq_false (by decide +kernel), eq_false (by decide +kernel), eq_false (by decide +kernel)⟩
    have e : rd rts s n (ew x) = some { s with part := 3, ents := s.ents ++ [x] } := by
      simp only [ew, rd, w0.1, w0.2.1, w0.2.2, if_true, if_false]
      rw [if_pos ⟨h1, h2, h5 x (List.mem_cons_self ..), h3 x (List.mem_cons_self ..), trivial, by omega⟩]
    obtain ⟨p, q⟩ := rds_ents rts l { s with part := 3, ents := s.ents ++ [x] } (n + 1) h1 (Int.le_refl _) (by
      intro y hy
      simp only [List.mem_append, List.mem_singleton, not_or]
      exact ⟨h3 y (List.mem_cons_of_mem _ hy), fun e => h4.1 (e ▸ hy)⟩) h4.2 (fun y hy => h5 y (List.mem_cons_of_mem _ hy)) (by simp only [List.length_append, List.length_cons, List.length_nil]; omega)
    refine ⟨p, ?_⟩
    simp only [List.map_cons, rds, e, Option.bind_some]
    rw [q]
    simp
theorem Lb.reads {L : Lb} (g : L.Good) : ∃ s, rds (L.routs.map Rt.n) rs0 1 L.ws = some s ∧ s.locks = L.locks ∧ s.hooks = L.hooks ∧ s.routs = L.routs ∧ s.ents = L.ents ∧ s.cur = none ∧ s.lens.map (·.1) = L.routs.map Rt.n ∧ ∀ q ∈ s.exp, q.2 ∈ L.routs.map Rt.n := by
  obtain ⟨nm, nd, l5, h4, r5, cb, en, bo⟩ := g
  rw [List.nodup_append] at nd
  obtain ⟨n1, n2, n3⟩ := nd
  rw [List.nodup_append] at n2
  obtain ⟨n2, n4, n5⟩ := n2
  have e1 := rds_locks (L.routs.map Rt.n) L.locks rs0 1 rfl rfl (fun x _ h => by cases h) n1 (by simpa [rs0] using l5) (by decide) (by decide)
  obtain ⟨p, e, e2, e3, e4, e5⟩ := rds_hooks (L.routs.map Rt.n) L.hooks { rs0 with known := rs0.known ++ L.locks, locks := rs0.locks ++ L.locks } (1 + (L.locks.map lw).length) rfl (show (0:Int) ≤ 1 by decide) (by
    intro x hx hk
    exact n3 x (by simpa [rs0] using hk) x (List.mem_append_left _ hx) rfl) n2 (by simpa [rs0] using l5) (by simpa [rs0] using h4) (Nat.zero_le _) cb (Nat.zero_le _) (fun q h => by cases h)
  obtain ⟨s3, f1, f2, f3, f4, f5, f6, f7, f8, f9⟩ := rds_routs (L.routs.map Rt.n) L.locks (L.hooks.map Hk.n) L.routs { rs0 with known := rs0.known ++ L.locks ++ L.hooks.map Hk.n, locks := rs0.locks ++ L.locks, hooks := rs0.hooks ++ L.hooks, exp := e, part := p } (1 + (L.locks.map lw).length + (L.hooks.map Hk.ws).length) rfl (by show p ≤ 2; omega) (by
    intro x hx hk
    simp only [rs0, List.nil_append, List.mem_append] at hk
    rcases hk with hk | hk
    · exact n3 x hk x (List.mem_append_right _ hx) rfl
    · exact n5 x hk x hx rfl) n4 rfl rfl l5 (by rw [List.length_map]; exact h4) (by simpa [rs0] using r5) rfl (fun x h => by cases h) bo (by
      simp only [rs0, List.length_nil] at e4 ⊢
      show e.length ≤ _
      omega) e5
  obtain ⟨p4, g1⟩ := rds_ents (L.routs.map Rt.n) L.ents s3 (1 + (L.locks.map lw).length + (L.hooks.map Hk.ws).length + (L.routs.flatMap Rt.ws).length) f6 (by omega) (by
    rw [f5]; intro x _ h; cases h) en.1 (by
    intro x hx
    rw [f8, f4]
    exact en.2.2 x hx) (by rw [f5]; have := en.2.1; simp [rs0]; omega)
  refine ⟨{ s3 with ents := s3.ents ++ L.ents, part := p4 }, ?_, ?_, ?_, ?_, ?_, f6, ?_, f9⟩
  · unfold Lb.ws
    rw [rds_app, e1, Option.bind_some, rds_app, e2, Option.bind_some, rds_app, f1, Option.bind_some, g1]
  · rw [f2]; rfl
  · rw [f3]; rfl
  · rw [f4]; rfl
  · show s3.ents ++ L.ents = _; rw [f5]; rfl
  · rw [f8, f4]; rfl
end Q

set_option maxHeartbeats 4000000
namespace Q
open PySem PySem.Spec PyProof.Rows
theorem look_mem {α : Type} {x : Str} {k : α} : ∀ {l : List (Str × α)}, l.lookup x = some k → x ∈ l.map (·.1)
  | [], h => by cases h
  | (y, v) :: l, h => by
    rw [List.lookup_cons] at h
    by_cases e : x = y
    · simp [e]
    · have : (x == y) = false := by simpa using e
      rw [this] at h
      simp [look_mem h]
def Kw (w : Str) : Prop := w = "acquire" ∨ w = "release" ∨ w = "call" ∨ w = "invoke" ∨ w = "maybe"
theorem stm_mem {C : Ctx} {tk : List Str} {c : Int} {w x : Str} {q : List Str × Int} (h : stm C tk c w x = some q) : Kw w ∧ (x ∈ C.locks ∨ x ∈ C.hooks ∨ x ∈ C.rts ∨ x ∈ C.lens.map (·.1)) := by
  unfold stm at h
  split at h
  · split at h
    · exact ⟨.inl ‹_›, .inl ‹_›⟩
    · cases h
  · split at h
    · split at h
      · rename_i hw hx; exact ⟨.inr (.inl hw), .inl hx.1⟩
      · cases h
    · split at h
      · rename_i hw
        obtain ⟨k, hk, _⟩ := Option.map_eq_some_iff.mp h
        exact ⟨.inr (.inr (.inl hw)), .inr (.inr (.inr (look_mem hk)))⟩
      · split at h
        · split at h
          · exact ⟨.inr (.inr (.inr (.inl ‹_›))), .inr (.inl ‹_›)⟩
          · cases h
        · split at h
          · split at h
            · exact ⟨.inr (.inr (.inr (.inr ‹_›))), .inr (.inr (.inl ‹_›))⟩
            · cases h
          · cases h
theorem stms_mem {C : Ctx} : ∀ {l : List (Str × Str)} {tk : List Str} {c : Int} {q : List Str × Int}, stms C tk c l = some q → ∀ p ∈ l, Kw p.1 ∧ (p.2 ∈ C.locks ∨ p.2 ∈ C.hooks ∨ p.2 ∈ C.rts ∨ p.2 ∈ C.lens.map (·.1))
  | [], _, _, _, _, p, hp => by cases hp
  | (w, x) :: l, tk, c, q, h, p, hp => by
    simp only [stms] at h
    cases e : stm C tk c w x with
    | none => rw [e] at h; cases h
    | some q2 =>
      rw [e, Option.bind_some] at h
      rcases List.mem_cons.mp hp with rfl | hp
      · exact stm_mem e
      · exact stms_mem h p hp
theorem routs_mem {lk hk rn : List Str} : ∀ {l : List Rt} {le : List (Str × Int)}, RoutsOk lk hk rn le l → (∀ x ∈ le.map (·.1), x ∈ rn) → (∀ x ∈ l.map Rt.n, x ∈ rn) → ∀ r ∈ l, r.rows.length ≤ 10 ∧ ∀ p ∈ r.rows, Kw p.1 ∧ (p.2 ∈ lk ∨ p.2 ∈ hk ∨ p.2 ∈ rn)
  | [], _, _, _, _, r, hr => by cases hr
  | r0 :: l, le, h, h1, h2, r, hr => by
    obtain ⟨c, ⟨b1, b2, b3⟩, h⟩ := h
    rcases List.mem_cons.mp hr with rfl | hr
    · refine ⟨b2, fun p hp => ?_⟩
      obtain ⟨k, q⟩ := stms_mem b1 p hp
      refine ⟨k, ?_⟩
      rcases q with q | q | q | q
      · exact .inl q
      · exact .inr (.inl q)
      · exact .inr (.inr q)
      · exact .inr (.inr (h1 _ q))
    · exact routs_mem h (by
        intro x hx
        simp only [List.map_append, List.map_cons, List.map_nil, List.mem_append, List.mem_singleton] at hx
        rcases hx with hx | rfl
        · exact h1 x hx
        · exact h2 _ (by simp)) (fun x hx => h2 x (by simp only [List.map_cons, List.mem_cons]; exact .inr hx)) r hr
theorem Kw.wd {w : Str} (h : Kw w) : nameB w = true := by rcases h with rfl | rfl | rfl | rfl | rfl <;> decide +kernel
theorem Lb.Good.lk {L : Lb} (g : L.Good) {x : Str} (h : x ∈ L.locks) : nameB x = true := g.nm x (List.mem_append_left _ h)
theorem Lb.Good.hk {L : Lb} (g : L.Good) {x : Str} (h : x ∈ L.hooks.map Hk.n) : nameB x = true := g.nm x (List.mem_append_right _ (List.mem_append_left _ h))
theorem Lb.Good.rk {L : Lb} (g : L.Good) {x : Str} (h : x ∈ L.routs.map Rt.n) : nameB x = true := g.nm x (List.mem_append_right _ (List.mem_append_right _ h))
theorem Lb.Good.rows {L : Lb} (g : L.Good) {r : Rt} (h : r ∈ L.routs) : r.rows.length ≤ 10 ∧ ∀ p ∈ r.rows, Kw p.1 ∧ nameB p.2 = true := by
  obtain ⟨h1, h2⟩ := routs_mem g.bo (fun x h => by cases h) (fun x h => h) r h
  refine ⟨h1, fun p hp => ⟨(h2 p hp).1, ?_⟩⟩
  rcases (h2 p hp).2 with q | q | q
  · exact g.lk q
  · exact g.hk q
  · exact g.rk q
theorem Lb.Good.line {L : Lb} (g : L.Good) : ∀ ws ∈ L.ws, (ws ≠ [] ∧ ws.length ≤ 7) ∧ ∀ w ∈ ws, nameB w = true := by
  intro ws h
  unfold Lb.ws at h
  simp only [List.mem_append] at h
  rcases h with h | h | h | h
  · obtain ⟨x, hx, rfl⟩ := List.mem_map.mp h
    refine ⟨⟨List.cons_ne_nil _ _, by show 2 ≤ 7; decide⟩, fun w hw => ?_⟩
    rcases List.mem_cons.mp hw with rfl | hw
    · decide +kernel
    · rw [List.mem_singleton.mp hw]; exact g.lk hx
  · obtain ⟨k, hk, rfl⟩ := List.mem_map.mp h
    obtain ⟨c1, c2, c3⟩ := g.cb k hk
    refine ⟨⟨List.cons_ne_nil _ _, by simp only [Hk.ws, List.length_cons]; omega⟩, fun w hw => ?_⟩
    unfold Hk.ws at hw
    rcases List.mem_cons.mp hw with rfl | hw
    · unfold Hk.wd; split <;> decide +kernel
    · rcases List.mem_cons.mp hw with rfl | hw
      · exact g.hk (List.mem_map_of_mem (f := Hk.n) hk)
      · exact g.rk (c3 w hw)
  · obtain ⟨r, hr, h⟩ := List.mem_flatMap.mp h
    obtain ⟨r1, r2⟩ := g.rows hr
    unfold Rt.ws at h
    rcases List.mem_cons.mp h with rfl | h
    · refine ⟨⟨List.cons_ne_nil _ _, by simp⟩, fun w hw => ?_⟩
      rcases List.mem_cons.mp hw with rfl | hw
      · decide +kernel
      · rw [List.mem_singleton.mp hw]; exact g.rk (List.mem_map_of_mem (f := Rt.n) hr)
    · rcases List.mem_append.mp h with h | h
      · obtain ⟨p, hp, rfl⟩ := List.mem_map.mp h
        refine ⟨⟨List.cons_ne_nil _ _, by simp⟩, fun w hw => ?_⟩
        rcases List.mem_cons.mp hw with rfl | hw
        · exact (r2 p hp).1.wd
        · rw [List.mem_singleton.mp hw]; exact (r2 p hp).2
      · rw [List.mem_singleton.mp h]
        refine ⟨⟨List.cons_ne_nil _ _, by simp⟩, fun w hw => ?_⟩
        rw [List.mem_singleton.mp hw]; decide +kernel
  · obtain ⟨x, hx, rfl⟩ := List.mem_map.mp h
    refine ⟨⟨List.cons_ne_nil _ _, by show 2 ≤ 7; decide⟩, fun w hw => ?_⟩
    rcases List.mem_cons.mp hw with rfl | hw
    · decide +kernel
    · rw [List.mem_singleton.mp hw]; exact g.rk (g.en.2.2 x hx)
theorem flat_len {α β : Type} (f : α → List β) (B : Nat) : ∀ l : List α, (∀ x ∈ l, (f x).length ≤ B) → (l.flatMap f).length ≤ l.length * B
  | [], _ => by simp
  | a :: l, h => by
    have h1 := flat_len f B l fun x hx => h x (List.mem_cons_of_mem _ hx)
    have h2 := h a (List.mem_cons_self ..)
    rw [List.flatMap_cons, List.length_append, List.length_cons, Nat.add_mul]
    omega
theorem Lb.Good.few {L : Lb} (g : L.Good) : L.ws.length ≤ 74 := by
  have h := flat_len Rt.ws 12 L.routs fun r hr => by
    have := (g.rows hr).1
    simp only [Rt.ws, List.length_cons, List.length_append, List.length_map, List.length_nil]; omega
  have h5 := g.l5
  have h4 := g.h4
  have hr := g.r5
  have he := g.en.2.1
  have hm : L.routs.length * 12 ≤ 5 * 12 := Nat.mul_le_mul_right 12 hr
  simp only [Lb.ws, List.length_append, List.length_map]
  omega
theorem Lb.Good.small {L : Lb} (g : L.Good) : L.text.length ≤ 5000 := by
  have h := tx_len (ls := L.ws) 7 (fun x hx w hw => wd_of ((g.line x hx).2 w hw)) fun x hx => (g.line x hx).1.2
  have := g.few
  unfold Lb.text
  omega
theorem Lb.Good.split {L : Lb} (g : L.Good) (h : L.ws ≠ []) : Txt.split L.text nl = L.ws.map ln := by
  unfold Lb.text
  cases e : L.ws with
  | nil => exact absurd e h
  | cons a l =>
    refine tx_split fun x hx w hw => ?_
    rw [← e] at hx
    exact wd_of ((g.line x hx).2 w hw)
theorem ln_pos {a : Str} {l : List Str} (h : Wd a) : 1 ≤ (ln (a :: l)).length := by
  have e : (ln (a :: l)).cps.toList = a.cps.toList ++ flat 32 l := by unfold ln; rw [sp_eq]; exact join_list 32 l a
  have h1 := congrArg List.length e
  rw [List.length_append] at h1
  have h2 := h.lo
  have h3 : (ln (a :: l)).cps.toList.length = (ln (a :: l)).length := rfl
  have h4 : a.cps.toList.length = a.length := rfl
  omega
theorem Lb.Good.ne {L : Lb} (g : L.Good) (h : L.ws ≠ []) : L.text ≠ "" := by
  intro e
  cases q : L.ws with
  | nil => exact h q
  | cons a l =>
    have h1 : (tx (a :: l)).cps.toList = (ln a).cps.toList ++ flat 10 (l.map ln) := by unfold tx; rw [nl_eq, List.map_cons]; exact join_list 10 _ _
    obtain ⟨⟨h2, _⟩, h3⟩ := g.line a (by rw [q]; exact List.mem_cons_self ..)
    cases a with
    | nil => exact h2 rfl
    | cons w r =>
      have h4 := ln_pos (l := r) (wd_of (h3 w (List.mem_cons_self ..)))
      unfold Lb.text at e
      rw [q] at e
      rw [e] at h1
      have h5 := congrArg List.length h1
      have h6 : (("" : Str).cps.toList).length = 0 := by decide +kernel
      have h7 : (ln (w :: r)).cps.toList.length = (ln (w :: r)).length := rfl
      rw [List.length_append, h6] at h5
      omega
theorem Lb.empty {L : Lb} (h : L.ws = []) : L = ⟨[], [], [], []⟩ := by
  obtain ⟨a, b, c, d⟩ := L
  unfold Lb.ws at h
  simp only [List.append_eq_nil_iff, List.map_eq_nil_iff] at h
  obtain ⟨rfl, rfl, h3, rfl⟩ := h
  cases c with
  | nil => rfl
  | cons r c => simp [Rt.ws] at h3
end Q

set_option maxHeartbeats 4000000
namespace Q
open PySem PySem.Spec PyProof.Rows L2 Ev
theorem sL : 1000000 < sizeLine := by decide +kernel
theorem lt_sL {n : Nat} (h : n ≤ 1000000) : n < sizeLine := Nat.lt_of_le_of_lt h sL
theorem le_sL {n : Nat} (h : n ≤ 1000000) : n ≤ sizeLine := Nat.le_of_lt (lt_sL h)
theorem seq_nx {g k : So} {δ δ' : Ev.Env} (h : g δ = some (.nx δ')) : sSeq g k δ = k δ' := by simp only [sSeq, seqO, h]
theorem seq_ret {g k : So} {δ δ' : Ev.Env} {d : D} (h : g δ = some (.ret d δ')) : sSeq g k δ = some (.ret d δ') := by simp only [sSeq, seqO, h]
theorem forGo_ind {t : Tg} {body : So} (I : Nat → Ev.Env → Prop) : ∀ (ds : List D) (k : Nat) (δ : Ev.Env), I k δ → (∀ i d δ, ds[i]? = some d → I (k + i) δ → ∃ δ1 δ2, bindT t d δ = some δ1 ∧ body δ1 = some (.nx δ2) ∧ I (k + i + 1) δ2) → ∃ δ', forGo t body ds δ = some (.nx δ') ∧ I (k + ds.length) δ'
  | [], k, δ, h, _ => ⟨δ, rfl, h⟩
  | d :: ds, k, δ, h, st => by
    obtain ⟨δ1, δ2, e1, e2, h2⟩ := st 0 d δ rfl h
    obtain ⟨δ', e3, h3⟩ := forGo_ind I ds (k + 1) δ2 h2 fun i d δ e q => by
      have := st (i + 1) d δ (by simpa using e) (by rw [show k + (i + 1) = k + 1 + i by omega]; exact q)
      rw [show k + (i + 1) + 1 = k + 1 + i + 1 by omega] at this
      exact this
    refine ⟨δ', ?_, by rw [List.length_cons, show k + (ds.length + 1) = k + 1 + ds.length by omega]; exact h3⟩
    simp only [forGo, e1, e2, Option.bind_some, e3]
theorem atI_lit {α : Type} (xs : List α) (k : Nat) : atI xs (k : Int) = xs[k]? := by
  unfold atI ixN
  rw [if_pos (Int.natCast_nonneg k)]
  by_cases h : k < xs.length
  · rw [if_pos (by omega)]; simp
  · rw [if_neg (by omega)]
    simp; omega
theorem rngD_len (n : Nat) : (rngD 0 (n : Int)).length = n := by simp [rngD]
theorem rngD_get {n i : Nat} {d : D} (h : (rngD 0 (n : Int))[i]? = some d) : d = .int (i : Int) ∧ i < n := by
  unfold rngD at h
  rw [List.getElem?_map] at h
  cases e : (List.range ((n : Int) - 0).toNat)[i]? with
  | none => rw [e] at h; cases h
  | some q =>
    rw [e] at h
    obtain ⟨h1, h2⟩ := List.getElem?_eq_some_iff.mp e
    rw [List.getElem_range] at h2
    subst h2
    rw [List.length_range] at h1
    cases h
    exact ⟨by simp, by omega⟩
theorem rngOk0 {n : Nat} (h : n ≤ 1000000) : rngOk 0 (n : Int) = some (rngD 0 (n : Int)) := by
  unfold rngOk
  rw [if_pos]
  simp only [Bool.and_eq_true, decide_eq_true_eq]
  omega
theorem cut_lo {α : Type} (xs : List α) (a : Nat) : cutG xs (some (a : Int)) none = xs.drop a := by
  unfold cutG
  rw [HT.sIx_nat]
  show (xs.drop (min a xs.length)).take (xs.length - min a xs.length) = _
  by_cases h : a ≤ xs.length
  · rw [Nat.min_eq_left h, List.take_of_length_le (by rw [List.length_drop]; omega)]
  · rw [Nat.min_eq_right (by omega), List.drop_of_length_le (Nat.le_refl _), List.drop_of_length_le (by omega), List.take_nil]
theorem cut_hi {α : Type} (xs : List α) (b : Nat) : cutG xs none (some (b : Int)) = xs.take b := by
  unfold cutG
  rw [HT.sIx_nat]
  show (xs.drop 0).take (min b xs.length - 0) = _
  rw [List.drop_zero, Nat.sub_zero]
  by_cases h : b ≤ xs.length
  · rw [Nat.min_eq_left h]
  · rw [Nat.min_eq_right (by omega), List.take_of_length_le (Nat.le_refl _), List.take_of_length_le (by omega)]
theorem eq_int (i j : Int) : eqD (.int i) (.int j) = some (decide (i = j)) := by unfold eqD; rw [if_pos (by simp [okD])]; rfl
theorem eq_bl (i j : Bool) : eqD (.bl i) (.bl j) = some (i == j) := by unfold eqD; rw [if_pos (by simp [okD])]; rfl
theorem eq_str (x y : Str) : eqD (.str x) (.str y) = some (decide (x = y)) := by unfold eqD; rw [if_pos (by simp [okD])]; rfl
theorem okDs_str (n : Nat) : ∀ l : List Str, okDs n (l.map D.str) = true
  | [] => by cases n <;> rfl
  | x :: l => by rw [List.map_cons]; unfold okDs; rw [okDs_str n l]; cases n <;> rfl
theorem any_str (x : Str) : ∀ l : List Str, ((l.map D.str).any fun z => eqB z (.str x)) = decide (x ∈ l)
  | [] => rfl
  | y :: l => by
    rw [List.map_cons, List.any_cons, any_str x l]
    have : eqB (.str y) (.str x) = decide (y = x) := rfl
    rw [this]
    by_cases h : y = x
    · subst h; simp
    · have h2 : ¬ x = y := fun e => h e.symm
      simp [h, h2]
theorem nin_tup (x : Str) (l : List Str) : inN true (.str x) (.tup (l.map D.str)) = some (!decide (x ∈ l)) := by
  simp only [inN, inD, inS, okDs_str, any_str, okD, Bool.and_self, if_true, Option.map_some]
def keys (l : List Str) : List Key := l.map .inr
def rwD (p : Str × Str) : D := .tup [.str p.1, .str p.2]
def Hk.t (h : Hk) : D := .tup [.str h.n, .bl h.late, .tup (h.cbs.map D.str)]
def Hk.d (h : Hk) : D := .lst [.str h.n, .bl h.late, .lst (h.cbs.map D.str)]
def Rt.t (r : Rt) : D := .tup [.str r.n, .tup (r.rows.map rwD)]
def Rt.d (r : Rt) : D := .lst [.str r.n, .lst (r.rows.map rwD)]
def Lb.d (L : Lb) : D := .lst [.lst (L.locks.map D.str), .lst (L.hooks.map Hk.d), .lst (L.routs.map Rt.d), .lst (L.ents.map D.str)]
def Lb.t (L : Lb) : D := .ins 0 [.tup (L.locks.map D.str), .tup (L.hooks.map Hk.t), .tup (L.routs.map Rt.t), .tup (L.ents.map D.str)]
def optD : Option Str → D
  | none => .non
  | some x => .str x
def exD (q : Int × Str) : D := .tup [.int q.1, .str q.2]
def RS.d (s : RS) : D := .ins 1 [.dic (keys s.known) (s.known.map fun _ => .bl true), .lst (s.locks.map D.str), .lst (s.hooks.map Hk.t), .lst (s.routs.map Rt.t), .lst (s.ents.map D.str), .dic (keys (s.lens.map (·.1))) (s.lens.map fun q => .int q.2), .lst (s.exp.map exD), .int s.part, optD s.cur, .lst (s.body.map rwD), .lst (s.taken.map D.str), .int s.cost]
theorem lcGo_map {α : Type} {enc : α → D} {t : Tg} {fe : EF} {δ : Ev.Env} (f : α → D) : ∀ l : List α, (∀ x ∈ l, ∃ δ1, bindT t (enc x) δ = some δ1 ∧ fe δ1 = some (.ok (f x))) → lcGo t none fe δ (l.map enc) = some (l.map f)
  | [], _ => rfl
  | x :: l, h => by
    obtain ⟨δ1, e1, e2⟩ := h x (List.mem_cons_self ..)
    have ih := lcGo_map f l fun y hy => h y (List.mem_cons_of_mem _ hy)
    simp only [List.map_cons, lcGo, e1, Option.bind_some, tstD, if_true, eltD, e2, ih, Option.map_some]
theorem lc_map {α : Type} {enc : α → D} {t : Tg} {fe : EF} {fi : EL} {own : List Nat} {δ : Ev.Env} (f : α → D) (l : List α) (hi : fi δ = some (.ok (l.map enc))) (hl : l.length ≤ 1000000) (h : ∀ x ∈ l, ∃ δ1, bindT t (enc x) (unsetL δ own) = some δ1 ∧ fe δ1 = some (.ok (f x))) : lcF t none fe fi own δ = some (.ok (.lst (l.map f))) := by
  unfold lcF
  rw [hi]
  show okO (lcD t none fe (unsetL δ own) (l.map enc)) = _
  unfold lcD
  rw [if_pos (by rw [List.length_map]; exact lt_sL hl), lcGo_map f l h]
  rfl
end Q

set_option maxHeartbeats 4000000
namespace Q
open PySem PySem.Spec PyProof.Rows L2 Ev Z
abbrev chr (q : Nat) : D := .str ⟨#[q]⟩
def nameL : So := (sSeq (sIf (fCmp (inN true) (evVar 1) (fC (.str al))) (sSeq (sRet (fC (.bl false))) sNx) sNx) sNx)
end Q

set_option maxHeartbeats 4000000
namespace Q
open PySem PySem.Spec PyProof.Rows L2 Ev Z
end Q

set_option maxHeartbeats 4000000
namespace Q
open PySem PySem.Spec PyProof.Rows L2 Ev Z
end Q

set_option maxHeartbeats 4000000
namespace Q
open PySem PySem.Spec PyProof.Rows L2 Ev Z
end Q

set_option maxHeartbeats 4000000
namespace Q
open PySem PySem.Spec PyProof.Rows L2 Ev Z
theorem at1 {α : Type} (a b : α) (l : List α) : atI (a :: b :: l) 1 = some b := atI_lit _ 1
def lns (ls : List (List Str)) : D := .lst ((ls.map ln).map D.str)
def rowL : So := (sSeq (sApp 1 (fBin addD (fBin addD (fIx (evVar 4) (fC (.int 0))) (fC (.str " "))) (fIx (evVar 4) (fC (.int 1))))) sNx)
theorem forGo_pre {α : Type} {enc : α → D} {t : Tg} {body : So} (I : List α → Ev.Env → Prop) (l : List α) (δ : Ev.Env) (h0 : I [] δ) (st : ∀ dn x r δ, l = dn ++ x :: r → I dn δ → ∃ δ1 δ2, bindT t (enc x) δ = some δ1 ∧ body δ1 = some (.nx δ2) ∧ I (dn ++ [x]) δ2) : ∃ δ', forGo t body (l.map enc) δ = some (.nx δ') ∧ I l δ' := by
  have gen : ∀ (m dn : List α) (δ : Ev.Env), l = dn ++ m → I dn δ → ∃ δ', forGo t body (m.map enc) δ = some (.nx δ') ∧ I l δ' := by
    intro m
    induction m with
    | nil => intro dn δ e h; rw [List.append_nil] at e; subst e; exact ⟨δ, rfl, h⟩
    | cons x m ih =>
      intro dn δ e h
      obtain ⟨δ1, δ2, e1, e2, h2⟩ := st dn x m δ e h
      obtain ⟨δ', e3, h3⟩ := ih (dn ++ [x]) δ2 (by rw [e]; simp) h2
      refine ⟨δ', ?_, h3⟩
      simp only [List.map_cons, forGo, e1, e2, Option.bind_some, e3]
  exact gen l [] δ rfl h0
theorem seq1 {g : So} {δ δ' : Ev.Env} (h : g δ = some (.nx δ')) : sSeq g sNx δ = some (.nx δ') := by rw [seq_nx h]; rfl
abbrev rh (x : Str) : List Str := ["routine", x]
end Q

set_option maxHeartbeats 4000000
namespace Q
open PySem PySem.Spec PyProof.Rows L2 Ev Z
theorem add_int (i j : Int) : addD (.int i) (.int j) = some (.int (i + j)) := rfl
theorem forGo_ret {α : Type} {enc : α → D} {t : Tg} {body : So} (I : Ev.Env → Prop) (x : α) (q : List α) (d : D) : ∀ (p : List α) (δ : Ev.Env), I δ → (∀ y ∈ p, ∀ δ, I δ → ∃ δ1 δ2, bindT t (enc y) δ = some δ1 ∧ body δ1 = some (.nx δ2) ∧ I δ2) →
    (∀ δ, I δ → ∃ δ1 δ2, bindT t (enc x) δ = some δ1 ∧ body δ1 = some (.ret d δ2)) → ∃ δ', forGo t body ((p ++ x :: q).map enc) δ = some (.ret d δ')
  | [], δ, h, _, f => by
    obtain ⟨δ1, δ2, e1, e2⟩ := f δ h
    exact ⟨δ2, by simp only [List.nil_append, List.map_cons, forGo, e1, Option.bind_some, e2]⟩
  | y :: p, δ, h, st, f => by
    obtain ⟨δ1, δ2, e1, e2, h2⟩ := st y (List.mem_cons_self ..) δ h
    obtain ⟨δ', e3⟩ := forGo_ret I x q d p δ2 h2 (fun z hz => st z (List.mem_cons_of_mem _ hz)) f
    exact ⟨δ', by simp only [List.cons_append, List.map_cons, forGo, e1, Option.bind_some, e2]; exact e3⟩
end Q

set_option maxHeartbeats 4000000
namespace Q
open PySem PySem.Spec PyProof.Rows L2 Ev Z
theorem leaf_bl (i j : Bool) : φ_law_leaf [.bl i, .bl j] = some (.ok (.bl (i == j))) := by
  unfold φ_law_leaf g_law_leaf
  simp only [Ev.defF, Ev.startE, Ev.outR, Ev.sSeq, Ev.seqO, Ev.sSet, Ev.sIf, Ev.sFor, Ev.sRet, Ev.sRetOw, Ev.sNx, Ev.sApp, Ev.appO, Ev.lstAt, Ev.sFrz, Ev.unsO, Ev.bndS, Ev.bndSB, Ev.bndSL, Ev.bnd, Ev.bndB, Ev.bndL, Ev.bndI, Ev.okO, Ev.okB, Ev.okL, Ev.evVar, Ev.fC, Ev.fBin, Ev.fCmp, Ev.fNot, Ev.fAnd, Ev.fOr, Ev.fIf, Ev.fChain, Ev.fIx, Ev.fSl, Ev.evP, Ev.lNil, Ev.lCons, Ev.consL, Ev.fTup, Ev.fLst, Ev.fBi, Ev.fCall, Ev.fIsi, Ev.fM, Ev.iVal, Ev.iRng1, Ev.iRng2, Ev.iZip, Ev.addD, Ev.subD, Ev.mulD, Ev.divD, Ev.modD, Ev.op, Ev.cmpI, Ev.pLt, Ev.pLe, Ev.pGt, Ev.pGe, Ev.neD, Ev.isN, Ev.isnD, Ev.lenD, Ev.intD, Ev.absD, Ev.tupD, Ev.lstD, Ev.Tn.has, Ev.ixD, Ev.itemsD, Ev.rngF1, Ev.rngF2, List.getElem?_cons_zero, List.getElem?_cons_succ, List.set_cons_zero, List.set_cons_succ, List.map_cons, List.map_nil, List.length_cons, List.length_nil, List.replicate, List.append_nil, List.cons_append, List.nil_append, Bool.not_true, Bool.not_false, Bool.false_eq_true, if_true, if_false, reduceIte, ite_true, ite_false, Option.bind_some, Option.bind_none, Option.map_some, Option.map_none, Ev.fInT, Ev.fIxT, Ev.inT, Ev.ixT, Ev.insAt, Ev.fSelf, Ev.sFset, Ev.sFapp, Ev.sFaug, Ev.sFdput, Ev.sFpop, Ev.dicAt, Ev.keyD, Ev.sFnew, Ev.sMeth, Ev.doM, Ev.defI, Ev.outI, Ev.slot0, Ev.sBor, Ev.keepO, Ev.keepE, Ev.sPop, Ev.sExt, Ev.catD, Ev.fCat, Ev.isIns, Ev.isCl, Ev.fPm, Ev.fPm0, Ev.fProp, Ev.okOnly, Ev.fldC, Ev.fFldC, Ev.sRetFz, Ev.fCm, Ev.lStar, Ev.starL, Ev.fLstF, Ev.fLz, Ev.lzD, Ev.tyOk, Ev.tyNm, Ev.slD, Ev.bindT, Ev.bindTs, Ev.evP, Nat.reduceAdd, Nat.reduceLT, Nat.lt_irrefl, beq_self_eq_true, eq_bl]
theorem leaf_int (i j : Int) : φ_law_leaf [.int i, .int j] = some (.ok (.bl (decide (i = j)))) := by
  unfold φ_law_leaf g_law_leaf
  simp only [Ev.defF, Ev.startE, Ev.outR, Ev.sSeq, Ev.seqO, Ev.sSet, Ev.sIf, Ev.sFor, Ev.sRet, Ev.sRetOw, Ev.sNx, Ev.sApp, Ev.appO, Ev.lstAt, Ev.sFrz, Ev.unsO, Ev.bndS, Ev.bndSB, Ev.bndSL, Ev.bnd, Ev.bndB, Ev.bndL, Ev.bndI, Ev.okO, Ev.okB, Ev.okL, Ev.evVar, Ev.fC, Ev.fBin, Ev.fCmp, Ev.fNot, Ev.fAnd, Ev.fOr, Ev.fIf, Ev.fChain, Ev.fIx, Ev.fSl, Ev.evP, Ev.lNil, Ev.lCons, Ev.consL, Ev.fTup, Ev.fLst, Ev.fBi, Ev.fCall, Ev.fIsi, Ev.fM, Ev.iVal, Ev.iRng1, Ev.iRng2, Ev.iZip, Ev.addD, Ev.subD, Ev.mulD, Ev.divD, Ev.modD, Ev.op, Ev.cmpI, Ev.pLt, Ev.pLe, Ev.pGt, Ev.pGe, Ev.neD, Ev.isN, Ev.isnD, Ev.lenD, Ev.intD, Ev.absD, Ev.tupD, Ev.lstD, Ev.Tn.has, Ev.ixD, Ev.itemsD, Ev.rngF1, Ev.rngF2, List.getElem?_cons_zero, List.getElem?_cons_succ, List.set_cons_zero, List.set_cons_succ, List.map_cons, List.map_nil, List.length_cons, List.length_nil, List.replicate, List.append_nil, List.cons_append, List.nil_append, Bool.not_true, Bool.not_false, Bool.false_eq_true, if_true, if_false, reduceIte, ite_true, ite_false, Option.bind_some, Option.bind_none, Option.map_some, Option.map_none, Ev.fInT, Ev.fIxT, Ev.inT, Ev.ixT, Ev.insAt, Ev.fSelf, Ev.sFset, Ev.sFapp, Ev.sFaug, Ev.sFdput, Ev.sFpop, Ev.dicAt, Ev.keyD, Ev.sFnew, Ev.sMeth, Ev.doM, Ev.defI, Ev.outI, Ev.slot0, Ev.sBor, Ev.keepO, Ev.keepE, Ev.sPop, Ev.sExt, Ev.catD, Ev.fCat, Ev.isIns, Ev.isCl, Ev.fPm, Ev.fPm0, Ev.fProp, Ev.okOnly, Ev.fldC, Ev.fFldC, Ev.sRetFz, Ev.fCm, Ev.lStar, Ev.starL, Ev.fLstF, Ev.fLz, Ev.lzD, Ev.tyOk, Ev.tyNm, Ev.slD, Ev.bindT, Ev.bindTs, Ev.evP, Nat.reduceAdd, Nat.reduceLT, Nat.lt_irrefl, beq_self_eq_true, eq_int]
theorem leaf_str (i j : Str) : φ_law_leaf [.str i, .str j] = some (.ok (.bl (decide (i = j)))) := by
  unfold φ_law_leaf g_law_leaf
  simp only [Ev.defF, Ev.startE, Ev.outR, Ev.sSeq, Ev.seqO, Ev.sSet, Ev.sIf, Ev.sFor, Ev.sRet, Ev.sRetOw, Ev.sNx, Ev.sApp, Ev.appO, Ev.lstAt, Ev.sFrz, Ev.unsO, Ev.bndS, Ev.bndSB, Ev.bndSL, Ev.bnd, Ev.bndB, Ev.bndL, Ev.bndI, Ev.okO, Ev.okB, Ev.okL, Ev.evVar, Ev.fC, Ev.fBin, Ev.fCmp, Ev.fNot, Ev.fAnd, Ev.fOr, Ev.fIf, Ev.fChain, Ev.fIx, Ev.fSl, Ev.evP, Ev.lNil, Ev.lCons, Ev.consL, Ev.fTup, Ev.fLst, Ev.fBi, Ev.fCall, Ev.fIsi, Ev.fM, Ev.iVal, Ev.iRng1, Ev.iRng2, Ev.iZip, Ev.addD, Ev.subD, Ev.mulD, Ev.divD, Ev.modD, Ev.op, Ev.cmpI, Ev.pLt, Ev.pLe, Ev.pGt, Ev.pGe, Ev.neD, Ev.isN, Ev.isnD, Ev.lenD, Ev.intD, Ev.absD, Ev.tupD, Ev.lstD, Ev.Tn.has, Ev.ixD, Ev.itemsD, Ev.rngF1, Ev.rngF2, List.getElem?_cons_zero, List.getElem?_cons_succ, List.set_cons_zero, List.set_cons_succ, List.map_cons, List.map_nil, List.length_cons, List.length_nil, List.replicate, List.append_nil, List.cons_append, List.nil_append, Bool.not_true, Bool.not_false, Bool.false_eq_true, if_true, if_false, reduceIte, ite_true, ite_false, Option.bind_some, Option.bind_none, Option.map_some, Option.map_none, Ev.fInT, Ev.fIxT, Ev.inT, Ev.ixT, Ev.insAt, Ev.fSelf, Ev.sFset, Ev.sFapp, Ev.sFaug, Ev.sFdput, Ev.sFpop, Ev.dicAt, Ev.keyD, Ev.sFnew, Ev.sMeth, Ev.doM, Ev.defI, Ev.outI, Ev.slot0, Ev.sBor, Ev.keepO, Ev.keepE, Ev.sPop, Ev.sExt, Ev.catD, Ev.fCat, Ev.isIns, Ev.isCl, Ev.fPm, Ev.fPm0, Ev.fProp, Ev.okOnly, Ev.fldC, Ev.fFldC, Ev.sRetFz, Ev.fCm, Ev.lStar, Ev.starL, Ev.fLstF, Ev.fLz, Ev.lzD, Ev.tyOk, Ev.tyNm, Ev.slD, Ev.bindT, Ev.bindTs, Ev.evP, Nat.reduceAdd, Nat.reduceLT, Nat.lt_irrefl, beq_self_eq_true, eq_str]
theorem leaf_non : φ_law_leaf [.non, .non] = some (.ok (.bl true)) := rfl
mutual
def wt : D → Nat
  | .tup xs => 1 + wts xs
  | .lst xs => 1 + wts xs
  | _ => 1
def wts : List D → Nat
  | [] => 0
  | x :: xs => wt x + wts xs
end
mutual
def pl : Nat → D → Bool
  | 0, _ => false
  | _ + 1, .non => true
  | _ + 1, .bl _ => true
  | _ + 1, .int _ => true
  | _ + 1, .str _ => true
  | n + 1, .tup xs => pls n xs
  | n + 1, .lst xs => pls n xs
  | _ + 1, _ => false
def pls : Nat → List D → Bool
  | _, [] => true
  | n, x :: xs => pl n x && pls n xs
end
def kids : D → List D
  | .tup xs => xs
  | .lst xs => xs
  | _ => []
theorem wt_pos (x : D) : 1 ≤ wt x := by cases x <;> simp [wt] <;> omega
theorem wts_app : ∀ a b : List D, wts (a ++ b) = wts a + wts b
  | [], b => by simp [wts]
  | x :: a, b => by simp only [List.cons_append, wts, wts_app a b]; omega
theorem len_wts : ∀ l : List D, l.length ≤ wts l
  | [] => Nat.le_refl _
  | x :: l => by have := wt_pos x; have := len_wts l; simp only [List.length_cons, wts]; omega
theorem wt_kids (x : D) : wts (kids x) ≤ wt x := by cases x <;> simp [wt, kids, wts]
theorem wts_kids : ∀ l : List D, wts (l.flatMap kids) ≤ wts l
  | [] => Nat.le_refl _
  | x :: l => by have := wt_kids x; have := wts_kids l; simp only [List.flatMap_cons, wts_app, wts]; omega
theorem pls_iff {n : Nat} : ∀ {l : List D}, pls n l = true ↔ ∀ x ∈ l, pl n x = true
  | [] => by simp [pls]
  | x :: l => by simp only [pls, Bool.and_eq_true, pls_iff (l := l), List.mem_cons, forall_eq_or_imp]
theorem pl_kids {n : Nat} {x : D} (h : pl (n + 1) x = true) : pls n (kids x) = true := by
  cases x <;> simp only [pl, kids, pls] at h ⊢ <;> first | exact h | rfl | cases h
def pairD (x : D) : D := .tup [x, x]
theorem zip_same : ∀ l : List D, zipL l l = l.map pairD
  | [] => rfl
  | x :: l => by simp only [zipL, zip_same l, List.map_cons, pairD]
def sameL : So := (sSeq (sIf (fOr (fIsi .tuple (evVar 6)) (fIsi .list (evVar 6))) (sSeq (sIf (fAnd (fIsi .tuple (evVar 6)) (fNot (fIsi .tuple (evVar 5)))) (sSeq (sRet (fC (.bl false)))
  sNx) sNx)
  (sSeq (sIf (fAnd (fIsi .list (evVar 6)) (fNot (fIsi .list (evVar 5)))) (sSeq (sRet (fC (.bl false)))
  sNx) sNx)
  (sSeq (sIf (fCmp (neD) (fBi lenD (lCons (evVar 5) lNil)) (fBi lenD (lCons (evVar 6) lNil))) (sSeq (sRet (fC (.bl false)))
  sNx) sNx)
  (sSeq (sExt 4 (fLz (lCons (evVar 5) (lCons (evVar 6) lNil))))
  sNx)))) (sSeq (sIf (fNot (fCall φ_law_leaf (lCons (evVar 5) (lCons (evVar 6) lNil)))) (sSeq (sRet (fC (.bl false)))
  sNx) sNx)
  sNx))
  sNx)
theorem same_step (a b c d : Option D) (x : D) (inn : List D) (n : Nat) (hp : pl (n + 1) x = true) (hw : wts inn + wt x ≤ 1000000) : sameL [a, b, c, d, some (.lst (inn.map pairD)), some x, some x] = some (.nx [a, b, c, d, some (.lst ((inn ++ kids x).map pairD)), some x, some x]) := by
  have h1 := len_wts inn
  unfold sameL
  cases x with
  | non => simp only [Ev.defF, Ev.startE, Ev.outR, Ev.sSeq, Ev.seqO, Ev.sSet, Ev.sIf, Ev.sFor, Ev.sRet, Ev.sRetOw, Ev.sNx, Ev.sApp, Ev.appO, Ev.lstAt, Ev.sFrz, Ev.unsO, Ev.bndS, Ev.bndSB, Ev.bndSL, Ev.bnd, Ev.bndB, Ev.bndL, Ev.bndI, Ev.okO, Ev.okB, Ev.okL, Ev.evVar, Ev.fC, Ev.fBin, Ev.fCmp, Ev.fNot, Ev.fAnd, Ev.fOr, Ev.fIf, Ev.fChain, Ev.fIx, Ev.fSl, Ev.evP, Ev.lNil, Ev.lCons, Ev.consL, Ev.fTup, Ev.fLst, Ev.fBi, Ev.fCall, Ev.fIsi, Ev.fM, Ev.iVal, Ev.iRng1, Ev.iRng2, Ev.iZip, Ev.addD, Ev.subD, Ev.mulD, Ev.divD, Ev.modD, Ev.op, Ev.cmpI, Ev.pLt, Ev.pLe, Ev.pGt, Ev.pGe, Ev.neD, Ev.isN, Ev.isnD, Ev.lenD, Ev.intD, Ev.absD, Ev.tupD, Ev.lstD, Ev.Tn.has, Ev.ixD, Ev.itemsD, Ev.rngF1, Ev.rngF2, List.getElem?_cons_zero, List.getElem?_cons_succ, List.set_cons_zero, List.set_cons_succ, List.map_cons, List.map_nil, List.length_cons, List.length_nil, List.replicate, List.append_nil, List.cons_append, List.nil_append, Bool.not_true, Bool.not_false, Bool.false_eq_true, if_true, if_false, reduceIte, ite_true, ite_false, Option.bind_some, Option.bind_none, Option.map_some, Option.map_none, Ev.fInT, Ev.fIxT, Ev.inT, Ev.ixT, Ev.insAt, Ev.fSelf, Ev.sFset, Ev.sFapp, Ev.sFaug, Ev.sFdput, Ev.sFpop, Ev.dicAt, Ev.keyD, Ev.sFnew, Ev.sMeth, Ev.doM, Ev.defI, Ev.outI, Ev.slot0, Ev.sBor, Ev.keepO, Ev.keepE, Ev.sPop, Ev.sExt, Ev.catD, Ev.fCat, Ev.isIns, Ev.isCl, Ev.fPm, Ev.fPm0, Ev.fProp, Ev.okOnly, Ev.fldC, Ev.fFldC, Ev.sRetFz, Ev.fCm, Ev.lStar, Ev.starL, Ev.fLstF, Ev.fLz, Ev.lzD, Ev.tyOk, Ev.tyNm, Ev.slD, Ev.bindT, Ev.bindTs, Ev.evP, Nat.reduceAdd, Nat.reduceLT, Nat.lt_irrefl, beq_self_eq_true, leaf_non, kids]
  | bl i => simp only [Ev.defF, Ev.startE, Ev.outR, Ev.sSeq, Ev.seqO, Ev.sSet, Ev.sIf, Ev.sFor, Ev.sRet, Ev.sRetOw, Ev.sNx, Ev.sApp, Ev.appO, Ev.lstAt, Ev.sFrz, Ev.unsO, Ev.bndS, Ev.bndSB, Ev.bndSL, Ev.bnd, Ev.bndB, Ev.bndL, Ev.bndI, Ev.okO, Ev.okB, Ev.okL, Ev.evVar, Ev.fC, Ev.fBin, Ev.fCmp, Ev.fNot, Ev.fAnd, Ev.fOr, Ev.fIf, Ev.fChain, Ev.fIx, Ev.fSl, Ev.evP, Ev.lNil, Ev.lCons, Ev.consL, Ev.fTup, Ev.fLst, Ev.fBi, Ev.fCall, Ev.fIsi, Ev.fM, Ev.iVal, Ev.iRng1, Ev.iRng2, Ev.iZip, Ev.addD, Ev.subD, Ev.mulD, Ev.divD, Ev.modD, Ev.op, Ev.cmpI, Ev.pLt, Ev.pLe, Ev.pGt, Ev.pGe, Ev.neD, Ev.isN, Ev.isnD, Ev.lenD, Ev.intD, Ev.absD, Ev.tupD, Ev.lstD, Ev.Tn.has, Ev.ixD, Ev.itemsD, Ev.rngF1, Ev.rngF2, List.getElem?_cons_zero, List.getElem?_cons_succ, List.set_cons_zero, List.set_cons_succ, List.map_cons, List.map_nil, List.length_cons, List.length_nil, List.replicate, List.append_nil, List.cons_append, List.nil_append, Bool.not_true, Bool.not_false, Bool.false_eq_true, if_true, if_false, reduceIte, ite_true, ite_false, Option.bind_some, Option.bind_none, Option.map_some, Option.map_none, Ev.fInT, Ev.fIxT, Ev.inT, Ev.ixT, Ev.insAt, Ev.fSelf, Ev.sFset, Ev.sFapp, Ev.sFaug, Ev.sFdput, Ev.sFpop, Ev.dicAt, Ev.keyD, Ev.sFnew, Ev.sMeth, Ev.doM, Ev.defI, Ev.outI, Ev.slot0, Ev.sBor, Ev.keepO, Ev.keepE, Ev.sPop, Ev.sExt, Ev.catD, Ev.fCat, Ev.isIns, Ev.isCl, Ev.fPm, Ev.fPm0, Ev.fProp, Ev.okOnly, Ev.fldC, Ev.fFldC, Ev.sRetFz, Ev.fCm, Ev.lStar, Ev.starL, Ev.fLstF, Ev.fLz, Ev.lzD, Ev.tyOk, Ev.tyNm, Ev.slD, Ev.bindT, Ev.bindTs, Ev.evP, Nat.reduceAdd, Nat.reduceLT, Nat.lt_irrefl, beq_self_eq_true, leaf_bl, kids]
  | int i => simp only [Ev.defF, Ev.startE, Ev.outR, Ev.sSeq, Ev.seqO, Ev.sSet, Ev.sIf, Ev.sFor, Ev.sRet, Ev.sRetOw, Ev.sNx, Ev.sApp, Ev.appO, Ev.lstAt, Ev.sFrz, Ev.unsO, Ev.bndS, Ev.bndSB, Ev.bndSL, Ev.bnd, Ev.bndB, Ev.bndL, Ev.bndI, Ev.okO, Ev.okB, Ev.okL, Ev.evVar, Ev.fC, Ev.fBin, Ev.fCmp, Ev.fNot, Ev.fAnd, Ev.fOr, Ev.fIf, Ev.fChain, Ev.fIx, Ev.fSl, Ev.evP, Ev.lNil, Ev.lCons, Ev.consL, Ev.fTup, Ev.fLst, Ev.fBi, Ev.fCall, Ev.fIsi, Ev.fM, Ev.iVal, Ev.iRng1, Ev.iRng2, Ev.iZip, Ev.addD, Ev.subD, Ev.mulD, Ev.divD, Ev.modD, Ev.op, Ev.cmpI, Ev.pLt, Ev.pLe, Ev.pGt, Ev.pGe, Ev.neD, Ev.isN, Ev.isnD, Ev.lenD, Ev.intD, Ev.absD, Ev.tupD, Ev.lstD, Ev.Tn.has, Ev.ixD, Ev.itemsD, Ev.rngF1, Ev.rngF2, List.getElem?_cons_zero, List.getElem?_cons_succ, List.set_cons_zero, List.set_cons_succ, List.map_cons, List.map_nil, List.length_cons, List.length_nil, List.replicate, List.append_nil, List.cons_append, List.nil_append, Bool.not_true, Bool.not_false, Bool.false_eq_true, if_true, if_false, reduceIte, ite_true, ite_false, Option.bind_some, Option.bind_none, Option.map_some, Option.map_none, Ev.fInT, Ev.fIxT, Ev.inT, Ev.ixT, Ev.insAt, Ev.fSelf, Ev.sFset, Ev.sFapp, Ev.sFaug, Ev.sFdput, Ev.sFpop, Ev.dicAt, Ev.keyD, Ev.sFnew, Ev.sMeth, Ev.doM, Ev.defI, Ev.outI, Ev.slot0, Ev.sBor, Ev.keepO, Ev.keepE, Ev.sPop, Ev.sExt, Ev.catD, Ev.fCat, Ev.isIns, Ev.isCl, Ev.fPm, Ev.fPm0, Ev.fProp, Ev.okOnly, Ev.fldC, Ev.fFldC, Ev.sRetFz, Ev.fCm, Ev.lStar, Ev.starL, Ev.fLstF, Ev.fLz, Ev.lzD, Ev.tyOk, Ev.tyNm, Ev.slD, Ev.bindT, Ev.bindTs, Ev.evP, Nat.reduceAdd, Nat.reduceLT, Nat.lt_irrefl, beq_self_eq_true, leaf_int, kids, decide_true]
  | str i => simp only [Ev.defF, Ev.startE, Ev.outR, Ev.sSeq, Ev.seqO, Ev.sSet, Ev.sIf, Ev.sFor, Ev.sRet, Ev.sRetOw, Ev.sNx, Ev.sApp, Ev.appO, Ev.lstAt, Ev.sFrz, Ev.unsO, Ev.bndS, Ev.bndSB, Ev.bndSL, Ev.bnd, Ev.bndB, Ev.bndL, Ev.bndI, Ev.okO, Ev.okB, Ev.okL, Ev.evVar, Ev.fC, Ev.fBin, Ev.fCmp, Ev.fNot, Ev.fAnd, Ev.fOr, Ev.fIf, Ev.fChain, Ev.fIx, Ev.fSl, Ev.evP, Ev.lNil, Ev.lCons, Ev.consL, Ev.fTup, Ev.fLst, Ev.fBi, Ev.fCall, Ev.fIsi, Ev.fM, Ev.iVal, Ev.iRng1, Ev.iRng2, Ev.iZip, Ev.addD, Ev.subD, Ev.mulD, Ev.divD, Ev.modD, Ev.op, Ev.cmpI, Ev.pLt, Ev.pLe, Ev.pGt, Ev.pGe, Ev.neD, Ev.isN, Ev.isnD, Ev.lenD, Ev.intD, Ev.absD, Ev.tupD, Ev.lstD, Ev.Tn.has, Ev.ixD, Ev.itemsD, Ev.rngF1, Ev.rngF2, List.getElem?_cons_zero, List.getElem?_cons_succ, List.set_cons_zero, List.set_cons_succ, List.map_cons, List.map_nil, List.length_cons, List.length_nil, List.replicate, List.append_nil, List.cons_append, List.nil_append, Bool.not_true, Bool.not_false, Bool.false_eq_true, if_true, if_false, reduceIte, ite_true, ite_false, Option.bind_some, Option.bind_none, Option.map_some, Option.map_none, Ev.fInT, Ev.fIxT, Ev.inT, Ev.ixT, Ev.insAt, Ev.fSelf, Ev.sFset, Ev.sFapp, Ev.sFaug, Ev.sFdput, Ev.sFpop, Ev.dicAt, Ev.keyD, Ev.sFnew, Ev.sMeth, Ev.doM, Ev.defI, Ev.outI, Ev.slot0, Ev.sBor, Ev.keepO, Ev.keepE, Ev.sPop, Ev.sExt, Ev.catD, Ev.fCat, Ev.isIns, Ev.isCl, Ev.fPm, Ev.fPm0, Ev.fProp, Ev.okOnly, Ev.fldC, Ev.fFldC, Ev.sRetFz, Ev.fCm, Ev.lStar, Ev.starL, Ev.fLstF, Ev.fLz, Ev.lzD, Ev.tyOk, Ev.tyNm, Ev.slD, Ev.bindT, Ev.bindTs, Ev.evP, Nat.reduceAdd, Nat.reduceLT, Nat.lt_irrefl, beq_self_eq_true, leaf_str, kids, decide_true]
  | tup xs =>
    have h2 := len_wts xs
    simp only [wt] at hw
    simp only [Ev.defF, Ev.startE, Ev.outR, Ev.sSeq, Ev.seqO, Ev.sSet, Ev.sIf, Ev.sFor, Ev.sRet, Ev.sRetOw, Ev.sNx, Ev.sApp, Ev.appO, Ev.lstAt, Ev.sFrz, Ev.unsO, Ev.bndS, Ev.bndSB, Ev.bndSL, Ev.bnd, Ev.bndB, Ev.bndL, Ev.bndI, Ev.okO, Ev.okB, Ev.okL, Ev.evVar, Ev.fC, Ev.fBin, Ev.fCmp, Ev.fNot, Ev.fAnd, Ev.fOr, Ev.fIf, Ev.fChain, Ev.fIx, Ev.fSl, Ev.evP, Ev.lNil, Ev.lCons, Ev.consL, Ev.fTup, Ev.fLst, Ev.fBi, Ev.fCall, Ev.fIsi, Ev.fM, Ev.iVal, Ev.iRng1, Ev.iRng2, Ev.iZip, Ev.addD, Ev.subD, Ev.mulD, Ev.divD, Ev.modD, Ev.op, Ev.cmpI, Ev.pLt, Ev.pLe, Ev.pGt, Ev.pGe, Ev.neD, Ev.isN, Ev.isnD, Ev.lenD, Ev.intD, Ev.absD, Ev.tupD, Ev.lstD, Ev.Tn.has, Ev.ixD, Ev.itemsD, Ev.rngF1, Ev.rngF2, List.getElem?_cons_zero, List.getElem?_cons_succ, List.set_cons_zero, List.set_cons_succ, List.map_cons, List.map_nil, List.length_cons, List.length_nil, List.replicate, List.append_nil, List.cons_append, List.nil_append, Bool.not_true, Bool.not_false, Bool.false_eq_true, if_true, if_false, reduceIte, ite_true, ite_false, Option.bind_some, Option.bind_none, Option.map_some, Option.map_none, Ev.fInT, Ev.fIxT, Ev.inT, Ev.ixT, Ev.insAt, Ev.fSelf, Ev.sFset, Ev.sFapp, Ev.sFaug, Ev.sFdput, Ev.sFpop, Ev.dicAt, Ev.keyD, Ev.sFnew, Ev.sMeth, Ev.doM, Ev.defI, Ev.outI, Ev.slot0, Ev.sBor, Ev.keepO, Ev.keepE, Ev.sPop, Ev.sExt, Ev.catD, Ev.fCat, Ev.isIns, Ev.isCl, Ev.fPm, Ev.fPm0, Ev.fProp, Ev.okOnly, Ev.fldC, Ev.fFldC, Ev.sRetFz, Ev.fCm, Ev.lStar, Ev.starL, Ev.fLstF, Ev.fLz, Ev.lzD, Ev.tyOk, Ev.tyNm, Ev.slD, Ev.bindT, Ev.bindTs, Ev.evP, Nat.reduceAdd, Nat.reduceLT, Nat.lt_irrefl, beq_self_eq_true, eq_int, decide_true, zipD, zip_same, List.length_map, le_sL (show inn.length + xs.length ≤ 1000000 by omega), kids, List.map_append]
  | lst xs =>
    have h2 := len_wts xs
    simp only [wt] at hw
    simp only [Ev.defF, Ev.startE, Ev.outR, Ev.sSeq, Ev.seqO, Ev.sSet, Ev.sIf, Ev.sFor, Ev.sRet, Ev.sRetOw, Ev.sNx, Ev.sApp, Ev.appO, Ev.lstAt, Ev.sFrz, Ev.unsO, Ev.bndS, Ev.bndSB, Ev.bndSL, Ev.bnd, Ev.bndB, Ev.bndL, Ev.bndI, Ev.okO, Ev.okB, Ev.okL, Ev.evVar, Ev.fC, Ev.fBin, Ev.fCmp, Ev.fNot, Ev.fAnd, Ev.fOr, Ev.fIf, Ev.fChain, Ev.fIx, Ev.fSl, Ev.evP, Ev.lNil, Ev.lCons, Ev.consL, Ev.fTup, Ev.fLst, Ev.fBi, Ev.fCall, Ev.fIsi, Ev.fM, Ev.iVal, Ev.iRng1, Ev.iRng2, Ev.iZip, Ev.addD, Ev.subD, Ev.mulD, Ev.divD, Ev.modD, Ev.op, Ev.cmpI, Ev.pLt, Ev.pLe, Ev.pGt, Ev.pGe, Ev.neD, Ev.isN, Ev.isnD, Ev.lenD, Ev.intD, Ev.absD, Ev.tupD, Ev.lstD, Ev.Tn.has, Ev.ixD, Ev.itemsD, Ev.rngF1, Ev.rngF2, List.getElem?_cons_zero, List.getElem?_cons_succ, List.set_cons_zero, List.set_cons_succ, List.map_cons, List.map_nil, List.length_cons, List.length_nil, List.replicate, List.append_nil, List.cons_append, List.nil_append, Bool.not_true, Bool.not_false, Bool.false_eq_true, if_true, if_false, reduceIte, ite_true, ite_false, Option.bind_some, Option.bind_none, Option.map_some, Option.map_none, Ev.fInT, Ev.fIxT, Ev.inT, Ev.ixT, Ev.insAt, Ev.fSelf, Ev.sFset, Ev.sFapp, Ev.sFaug, Ev.sFdput, Ev.sFpop, Ev.dicAt, Ev.keyD, Ev.sFnew, Ev.sMeth, Ev.doM, Ev.defI, Ev.outI, Ev.slot0, Ev.sBor, Ev.keepO, Ev.keepE, Ev.sPop, Ev.sExt, Ev.catD, Ev.fCat, Ev.isIns, Ev.isCl, Ev.fPm, Ev.fPm0, Ev.fProp, Ev.okOnly, Ev.fldC, Ev.fFldC, Ev.sRetFz, Ev.fCm, Ev.lStar, Ev.starL, Ev.fLstF, Ev.fLz, Ev.lzD, Ev.tyOk, Ev.tyNm, Ev.slD, Ev.bindT, Ev.bindTs, Ev.evP, Nat.reduceAdd, Nat.reduceLT, Nat.lt_irrefl, beq_self_eq_true, eq_int, decide_true, zipD, zip_same, List.length_map, le_sL (show inn.length + xs.length ≤ 1000000 by omega), kids, List.map_append]
  | dic _ _ => simp [pl] at hp
  | dct _ _ => simp [pl] at hp
  | ins _ _ => simp [pl] at hp
  | lck _ => simp [pl] at hp
  | cl _ => simp [pl] at hp
  | xv => simp [pl] at hp
theorem same_loop (a b d : Option D) (n : Nat) (ps : List D) (o5 o6 : Option D) (hp : ∀ x ∈ ps, pl (n + 1) x = true) (hw : wts ps ≤ 1000000) : ∃ o5' o6', forGo (.tp [(.nm 5), (.nm 6)]) sameL (ps.map pairD) [a, b, some (.lst (ps.map pairD)), d, some (.lst []), o5, o6] = some (.nx [a, b, some (.lst (ps.map pairD)), d, some (.lst ((ps.flatMap kids).map pairD)), o5', o6']) := by
  obtain ⟨δ', e, o5', o6', rfl⟩ := forGo_pre (enc := pairD) (t := .tp [(.nm 5), (.nm 6)]) (body := sameL) (fun dn δ => ∃ o5 o6, δ = [a, b, some (.lst (ps.map pairD)), d, some (.lst ((dn.flatMap kids).map pairD)), o5, o6]) ps [a, b, some (.lst (ps.map pairD)), d, some (.lst []), o5, o6] ⟨o5, o6, rfl⟩ (by
    rintro dn x r δ he ⟨o5, o6, rfl⟩
    refine ⟨_, _, rfl, same_step a b _ d x (dn.flatMap kids) n (hp x (by rw [he]; simp)) ?_, some x, some x, by simp⟩
    have h1 := wts_kids dn
    rw [he, wts_app] at hw
    simp only [wts] at hw
    omega)
  exact ⟨o5', o6', e⟩
theorem same_round (a b o4 o5 o6 : Option D) (k : Option D) (n : Nat) (ps : List D) (hp : pls n ps = true) (hw : wts ps ≤ 1000000) : ∃ o5' o6', ∀ R : So,
    (sSeq (sSet 4 (fLst lNil))
  (sSeq (sFor (.tp [(.nm 5), (.nm 6)]) (iVal (evVar 2)) sameL)
  (sSeq (sSet 2 (fBi lstD (lCons (evVar 4) lNil)))
  sNx))) [a, b, some (.lst (ps.map pairD)), k, o4, o5, o6] = some (.nx [a, b, some (.lst ((ps.flatMap kids).map pairD)), k, some (.lst ((ps.flatMap kids).map pairD)), o5', o6']) := by
  have hn : ∃ o5' o6', forGo (.tp [(.nm 5), (.nm 6)]) sameL (ps.map pairD) [a, b, some (.lst (ps.map pairD)), k, some (.lst []), o5, o6] = some (.nx [a, b, some (.lst (ps.map pairD)), k, some (.lst ((ps.flatMap kids).map pairD)), o5', o6']) := by
    cases n with
    | zero =>
      cases ps with
      | nil => exact ⟨o5, o6, rfl⟩
      | cons x r => simp [pls, pl] at hp
    | succ n => exact same_loop a b k n ps o5 o6 (pls_iff.mp hp) hw
  obtain ⟨o5', o6', e⟩ := hn
  refine ⟨o5', o6', fun _ => ?_⟩
  rw [seq_nx (δ' := [a, b, some (.lst (ps.map pairD)), k, some (.lst []), o5, o6]) (by simp only [Ev.defF, Ev.startE, Ev.outR, Ev.sSeq, Ev.seqO, Ev.sSet, Ev.sIf, Ev.sFor, Ev.sRet, Ev.sRetOw, Ev.sNx, Ev.sApp, Ev.appO, Ev.lstAt, Ev.sFrz, Ev.unsO, Ev.bndS, Ev.bndSB, Ev.bndSL, Ev.bnd, Ev.bndB, Ev.bndL, Ev.bndI, Ev.okO, Ev.okB, Ev.okL, Ev.evVar, Ev.fC, Ev.fBin, Ev.fCmp, Ev.fNot, Ev.fAnd, Ev.fOr, Ev.fIf, Ev.fChain, Ev.fIx, Ev.fSl, Ev.evP, Ev.lNil, Ev.lCons, Ev.consL, Ev.fTup, Ev.fLst, Ev.fBi, Ev.fCall, Ev.fIsi, Ev.fM, Ev.iVal, Ev.iRng1, Ev.iRng2, Ev.iZip, Ev.addD, Ev.subD, Ev.mulD, Ev.divD, Ev.modD, Ev.op, Ev.cmpI, Ev.pLt, Ev.pLe, Ev.pGt, Ev.pGe, Ev.neD, Ev.isN, Ev.isnD, Ev.lenD, Ev.intD, Ev.absD, Ev.tupD, Ev.lstD, Ev.Tn.has, Ev.ixD, Ev.itemsD, Ev.rngF1, Ev.rngF2, List.getElem?_cons_zero, List.getElem?_cons_succ, List.set_cons_zero, List.set_cons_succ, List.map_cons, List.map_nil, List.length_cons, List.length_nil, List.replicate, List.append_nil, List.cons_append, List.nil_append, Bool.not_true, Bool.not_false, Bool.false_eq_true, if_true, if_false, reduceIte, ite_true, ite_false, Option.bind_some, Option.bind_none, Option.map_some, Option.map_none, Ev.fInT, Ev.fIxT, Ev.inT, Ev.ixT, Ev.insAt, Ev.fSelf, Ev.sFset, Ev.sFapp, Ev.sFaug, Ev.sFdput, Ev.sFpop, Ev.dicAt, Ev.keyD, Ev.sFnew, Ev.sMeth, Ev.doM, Ev.defI, Ev.outI, Ev.slot0, Ev.sBor, Ev.keepO, Ev.keepE, Ev.sPop, Ev.sExt, Ev.catD, Ev.fCat, Ev.isIns, Ev.isCl, Ev.fPm, Ev.fPm0, Ev.fProp, Ev.okOnly, Ev.fldC, Ev.fFldC, Ev.sRetFz, Ev.fCm, Ev.lStar, Ev.starL, Ev.fLstF, Ev.fLz, Ev.lzD, Ev.tyOk, Ev.tyNm, Ev.slD, Ev.bindT, Ev.bindTs, Ev.evP, Nat.reduceAdd, Nat.reduceLT, Nat.lt_irrefl, beq_self_eq_true])]
  rw [seq_nx (δ' := [a, b, some (.lst (ps.map pairD)), k, some (.lst ((ps.flatMap kids).map pairD)), o5', o6']) (by
    unfold sFor
    simp only [iVal, evVar, List.getElem?_cons_succ, List.getElem?_cons_zero, bndI, itemsD, okL, bndSL]
    exact e)]
  simp only [Ev.defF, Ev.startE, Ev.outR, Ev.sSeq, Ev.seqO, Ev.sSet, Ev.sIf, Ev.sFor, Ev.sRet, Ev.sRetOw, Ev.sNx, Ev.sApp, Ev.appO, Ev.lstAt, Ev.sFrz, Ev.unsO, Ev.bndS, Ev.bndSB, Ev.bndSL, Ev.bnd, Ev.bndB, Ev.bndL, Ev.bndI, Ev.okO, Ev.okB, Ev.okL, Ev.evVar, Ev.fC, Ev.fBin, Ev.fCmp, Ev.fNot, Ev.fAnd, Ev.fOr, Ev.fIf, Ev.fChain, Ev.fIx, Ev.fSl, Ev.evP, Ev.lNil, Ev.lCons, Ev.consL, Ev.fTup, Ev.fLst, Ev.fBi, Ev.fCall, Ev.fIsi, Ev.fM, Ev.iVal, Ev.iRng1, Ev.iRng2, Ev.iZip, Ev.addD, Ev.subD, Ev.mulD, Ev.divD, Ev.modD, Ev.op, Ev.cmpI, Ev.pLt, Ev.pLe, Ev.pGt, Ev.pGe, Ev.neD, Ev.isN, Ev.isnD, Ev.lenD, Ev.intD, Ev.absD, Ev.tupD, Ev.lstD, Ev.Tn.has, Ev.ixD, Ev.itemsD, Ev.rngF1, Ev.rngF2, List.getElem?_cons_zero, List.getElem?_cons_succ, List.set_cons_zero, List.set_cons_succ, List.map_cons, List.map_nil, List.length_cons, List.length_nil, List.replicate, List.append_nil, List.cons_append, List.nil_append, Bool.not_true, Bool.not_false, Bool.false_eq_true, if_true, if_false, reduceIte, ite_true, ite_false, Option.bind_some, Option.bind_none, Option.map_some, Option.map_none, Ev.fInT, Ev.fIxT, Ev.inT, Ev.ixT, Ev.insAt, Ev.fSelf, Ev.sFset, Ev.sFapp, Ev.sFaug, Ev.sFdput, Ev.sFpop, Ev.dicAt, Ev.keyD, Ev.sFnew, Ev.sMeth, Ev.doM, Ev.defI, Ev.outI, Ev.slot0, Ev.sBor, Ev.keepO, Ev.keepE, Ev.sPop, Ev.sExt, Ev.catD, Ev.fCat, Ev.isIns, Ev.isCl, Ev.fPm, Ev.fPm0, Ev.fProp, Ev.okOnly, Ev.fldC, Ev.fFldC, Ev.sRetFz, Ev.fCm, Ev.lStar, Ev.starL, Ev.fLstF, Ev.fLz, Ev.lzD, Ev.tyOk, Ev.tyNm, Ev.slD, Ev.bindT, Ev.bindTs, Ev.evP, Nat.reduceAdd, Nat.reduceLT, Nat.lt_irrefl, beq_self_eq_true]
theorem pls_kids {n : Nat} : ∀ {ps : List D}, pls (n + 1) ps = true → pls n (ps.flatMap kids) = true
  | [], _ => rfl
  | x :: ps, h => by
    simp only [pls, Bool.and_eq_true] at h
    rw [List.flatMap_cons, pls_iff]
    intro y hy
    rcases List.mem_append.mp hy with hy | hy
    · exact pls_iff.mp (pl_kids h.1) y hy
    · exact pls_iff.mp (pls_kids h.2) y hy
theorem same_eq (x : D) (hp : pl 7 x = true) (hw : wt x ≤ 1000000) : φ_law_same [x, x] = some (.ok (.bl true)) := by
  unfold φ_law_same defF
  rw [show startE 7 [x, x] = [some x, some x, none, none, none, none, none] from rfl]
  unfold g_law_same
  rw [seq_nx (δ' := [some x, some x, some (.lst ([x].map pairD)), none, none, none, none]) (by simp only [Ev.defF, Ev.startE, Ev.outR, Ev.sSeq, Ev.seqO, Ev.sSet, Ev.sIf, Ev.sFor, Ev.sRet, Ev.sRetOw, Ev.sNx, Ev.sApp, Ev.appO, Ev.lstAt, Ev.sFrz, Ev.unsO, Ev.bndS, Ev.bndSB, Ev.bndSL, Ev.bnd, Ev.bndB, Ev.bndL, Ev.bndI, Ev.okO, Ev.okB, Ev.okL, Ev.evVar, Ev.fC, Ev.fBin, Ev.fCmp, Ev.fNot, Ev.fAnd, Ev.fOr, Ev.fIf, Ev.fChain, Ev.fIx, Ev.fSl, Ev.evP, Ev.lNil, Ev.lCons, Ev.consL, Ev.fTup, Ev.fLst, Ev.fBi, Ev.fCall, Ev.fIsi, Ev.fM, Ev.iVal, Ev.iRng1, Ev.iRng2, Ev.iZip, Ev.addD, Ev.subD, Ev.mulD, Ev.divD, Ev.modD, Ev.op, Ev.cmpI, Ev.pLt, Ev.pLe, Ev.pGt, Ev.pGe, Ev.neD, Ev.isN, Ev.isnD, Ev.lenD, Ev.intD, Ev.absD, Ev.tupD, Ev.lstD, Ev.Tn.has, Ev.ixD, Ev.itemsD, Ev.rngF1, Ev.rngF2, List.getElem?_cons_zero, List.getElem?_cons_succ, List.set_cons_zero, List.set_cons_succ, List.map_cons, List.map_nil, List.length_cons, List.length_nil, List.replicate, List.append_nil, List.cons_append, List.nil_append, Bool.not_true, Bool.not_false, Bool.false_eq_true, if_true, if_false, reduceIte, ite_true, ite_false, Option.bind_some, Option.bind_none, Option.map_some, Option.map_none, Ev.fInT, Ev.fIxT, Ev.inT, Ev.ixT, Ev.insAt, Ev.fSelf, Ev.sFset, Ev.sFapp, Ev.sFaug, Ev.sFdput, Ev.sFpop, Ev.dicAt, Ev.keyD, Ev.sFnew, Ev.sMeth, Ev.doM, Ev.defI, Ev.outI, Ev.slot0, Ev.sBor, Ev.keepO, Ev.keepE, Ev.sPop, Ev.sExt, Ev.catD, Ev.fCat, Ev.isIns, Ev.isCl, Ev.fPm, Ev.fPm0, Ev.fProp, Ev.okOnly, Ev.fldC, Ev.fFldC, Ev.sRetFz, Ev.fCm, Ev.lStar, Ev.starL, Ev.fLstF, Ev.fLz, Ev.lzD, Ev.tyOk, Ev.tyNm, Ev.slD, Ev.bindT, Ev.bindTs, Ev.evP, Nat.reduceAdd, Nat.reduceLT, Nat.lt_irrefl, beq_self_eq_true, pairD])]
  obtain ⟨δ', e, ps, o3, o4, o5, o6, h1, h2, rfl⟩ := forGo_ind (t := .nm 3) (body := (sSeq (sSet 4 (fLst lNil))
  (sSeq (sFor (.tp [(.nm 5), (.nm 6)]) (iVal (evVar 2)) sameL)
  (sSeq (sSet 2 (fBi lstD (lCons (evVar 4) lNil)))
  sNx)))) (fun i δ => ∃ ps o3 o4 o5 o6, pls (7 - i) ps = true ∧ wts ps ≤ 1000000 ∧ δ = [some x, some x, some (.lst (ps.map pairD)), o3, o4, o5, o6]) (rngD 0 ((7 : Nat) : Int)) 0 [some x, some x, some (.lst ([x].map pairD)), none, none, none, none] ⟨[x], none, none, none, none, by simp [pls, hp], by simp [wts, hw], rfl⟩ (by
    rintro i d δ hd ⟨ps, o3, o4, o5, o6, h1, h2, rfl⟩
    obtain ⟨rfl, hi⟩ := rngD_get hd
    rw [Nat.zero_add] at *
    obtain ⟨o5', o6', e⟩ := same_round (some x) (some x) o4 o5 o6 (some (.int i)) _ ps h1 h2
    refine ⟨_, _, rfl, e sNx, ps.flatMap kids, _, _, _, _, ?_, Nat.le_trans (wts_kids ps) h2, rfl⟩
    rw [show 7 - i = (7 - (i + 1)) + 1 by omega] at h1
    exact pls_kids h1)
  rw [rngD_len] at h1
  have hps : ps = [] := by
    cases ps with
    | nil => rfl
    | cons y r => simp [pls, pl] at h1
  subst hps
  rw [seq_nx (δ' := [some x, some x, some (.lst []), o3, o4, o5, o6]) (by
    unfold sFor
    have : Ev.iRng1 (fC (.int 7)) [some x, some x, some (.lst ([x].map pairD)), none, none, none, none] = some (.ok (rngD 0 ((7 : Nat) : Int))) := by
      simp only [Ev.iRng1, fC, bndI, rngF1]
      rw [show (7 : Int) = ((7 : Nat) : Int) from rfl, rngOk0 (by omega)]
      rfl
    rw [this]
    exact e)]
  simp only [Ev.defF, Ev.startE, Ev.outR, Ev.sSeq, Ev.seqO, Ev.sSet, Ev.sIf, Ev.sFor, Ev.sRet, Ev.sRetOw, Ev.sNx, Ev.sApp, Ev.appO, Ev.lstAt, Ev.sFrz, Ev.unsO, Ev.bndS, Ev.bndSB, Ev.bndSL, Ev.bnd, Ev.bndB, Ev.bndL, Ev.bndI, Ev.okO, Ev.okB, Ev.okL, Ev.evVar, Ev.fC, Ev.fBin, Ev.fCmp, Ev.fNot, Ev.fAnd, Ev.fOr, Ev.fIf, Ev.fChain, Ev.fIx, Ev.fSl, Ev.evP, Ev.lNil, Ev.lCons, Ev.consL, Ev.fTup, Ev.fLst, Ev.fBi, Ev.fCall, Ev.fIsi, Ev.fM, Ev.iVal, Ev.iRng1, Ev.iRng2, Ev.iZip, Ev.addD, Ev.subD, Ev.mulD, Ev.divD, Ev.modD, Ev.op, Ev.cmpI, Ev.pLt, Ev.pLe, Ev.pGt, Ev.pGe, Ev.neD, Ev.isN, Ev.isnD, Ev.lenD, Ev.intD, Ev.absD, Ev.tupD, Ev.lstD, Ev.Tn.has, Ev.ixD, Ev.itemsD, Ev.rngF1, Ev.rngF2, List.getElem?_cons_zero, List.getElem?_cons_succ, List.set_cons_zero, List.set_cons_succ, List.map_cons, List.map_nil, List.length_cons, List.length_nil, List.replicate, List.append_nil, List.cons_append, List.nil_append, Bool.not_true, Bool.not_false, Bool.false_eq_true, if_true, if_false, reduceIte, ite_true, ite_false, Option.bind_some, Option.bind_none, Option.map_some, Option.map_none, Ev.fInT, Ev.fIxT, Ev.inT, Ev.ixT, Ev.insAt, Ev.fSelf, Ev.sFset, Ev.sFapp, Ev.sFaug, Ev.sFdput, Ev.sFpop, Ev.dicAt, Ev.keyD, Ev.sFnew, Ev.sMeth, Ev.doM, Ev.defI, Ev.outI, Ev.slot0, Ev.sBor, Ev.keepO, Ev.keepE, Ev.sPop, Ev.sExt, Ev.catD, Ev.fCat, Ev.isIns, Ev.isCl, Ev.fPm, Ev.fPm0, Ev.fProp, Ev.okOnly, Ev.fldC, Ev.fFldC, Ev.sRetFz, Ev.fCm, Ev.lStar, Ev.starL, Ev.fLstF, Ev.fLz, Ev.lzD, Ev.tyOk, Ev.tyNm, Ev.slD, Ev.bindT, Ev.bindTs, Ev.evP, Nat.reduceAdd, Nat.reduceLT, Nat.lt_irrefl, beq_self_eq_true, eq_int]
  rfl
/-- what both lists hold -/
def toldH (h : Hk) : List D := [.tup (h.cbs.map D.str), .bl h.late]
def toldR (r : Rt) : D := .tup (r.rows.map rwD)
def told0 (L : Lb) : List D := [.tup (L.locks.map D.str), .tup ((L.hooks.map Hk.n).map D.str), .tup ((L.routs.map Rt.n).map D.str), .tup (L.ents.map D.str)]
end Q

set_option maxHeartbeats 4000000
namespace Q
open PySem PySem.Spec PyProof.Rows L2 Ev Z
theorem atI_in {α : Type} {xs : List α} {i : Int} (h0 : 0 ≤ i) (h1 : i < xs.length) : ∃ x, atI xs i = some x ∧ x ∈ xs := by
  obtain ⟨k, rfl⟩ := Int.eq_ofNat_of_zero_le h0
  rw [atI_lit]
  have hk : k < xs.length := by omega
  exact ⟨xs[k], List.getElem?_eq_getElem hk, List.getElem_mem hk⟩
theorem pow18 : powD (.int 10) (.int 18) = some (.int 1000000000000000000) := by kernel_rfl
theorem smallI_of {i : Int} (h0 : 0 ≤ i) (h1 : i < 18446744073709551616) : smallI i = true := by
  unfold smallI
  exact decide_eq_true (by omega)
abbrev nd (l : List Int) : D := .lst (l.map D.int)
theorem nd_app (l : List Int) (x : Int) : nd (l ++ [x]) = .lst (l.map D.int ++ [.int x]) := by simp only [nd, List.map_append, List.map_cons, List.map_nil]
theorem nums_first (ns : List Int) (at_ : Nat) (many : Nat) (ha : at_ ≤ 1000) : ∃ (cell : Int) (skip : Nat), skip ≤ 60000 ∧
    (sIf (fCmp (op pLt) (evVar 1) (fBi lenD (lCons (evVar 0) lNil))) (sSeq (sSet 3 (fIx (evVar 0) (evVar 1))) sNx)
      (sSeq (sIf (fAnd (fCmp (op pGt) (fBi lenD (lCons (evVar 0) lNil)) (fC (.int 0))) (fCmp (op pLt) (fBi absD (lCons (fIx (evVar 0) (fBin modD (fBi intD (lCons (evVar 1) lNil)) (fBi lenD (lCons (evVar 0) lNil)))) lNil)) (fBin powD (fC (.int 10)) (fC (.int 18)))))
        (sSeq (sSet 3 (fIx (evVar 0) (fBin modD (fBi intD (lCons (evVar 1) lNil)) (fBi lenD (lCons (evVar 0) lNil))))) (sSeq (sSet 4 (fBin mulD (fC (.int 60)) (evVar 1))) sNx)) sNx) sNx))
      [some (.lck ns), some (.int at_), some (.int many), some (.int 0), some (.int 0), none, none, none, none] = some (.nx [some (.lck ns), some (.int at_), some (.int many), some (.int cell), some (.int skip), none, none, none, none]) := by
  by_cases h1 : at_ < ns.length
  · refine ⟨ns[at_], 0, by omega, ?_⟩
    have e : atI ns (at_ : Int) = some ns[at_] := by rw [atI_lit]; exact List.getElem?_eq_getElem h1
    have h2 : decide ((at_ : Int) < (ns.length : Int)) = true := decide_eq_true (by omega)
    simp only [Ev.defF, Ev.startE, Ev.outR, Ev.sSeq, Ev.seqO, Ev.sSet, Ev.sIf, Ev.sFor, Ev.sRet, Ev.sRetOw, Ev.sNx, Ev.sApp, Ev.appO, Ev.lstAt, Ev.sFrz, Ev.unsO, Ev.bndS, Ev.bndSB, Ev.bndSL, Ev.bnd, Ev.bndB, Ev.bndL, Ev.bndI, Ev.okO, Ev.okB, Ev.okL, Ev.evVar, Ev.fC, Ev.fBin, Ev.fCmp, Ev.fNot, Ev.fAnd, Ev.fOr, Ev.fIf, Ev.fChain, Ev.fIx, Ev.fSl, Ev.evP, Ev.lNil, Ev.lCons, Ev.consL, Ev.fTup, Ev.fLst, Ev.fBi, Ev.fCall, Ev.fIsi, Ev.fM, Ev.iVal, Ev.iRng1, Ev.iRng2, Ev.iZip, Ev.addD, Ev.subD, Ev.mulD, Ev.divD, Ev.modD, Ev.op, Ev.cmpI, Ev.pLt, Ev.pLe, Ev.pGt, Ev.pGe, Ev.neD, Ev.isN, Ev.isnD, Ev.lenD, Ev.intD, Ev.absD, Ev.tupD, Ev.lstD, Ev.Tn.has, Ev.ixD, Ev.itemsD, Ev.rngF1, Ev.rngF2, List.getElem?_cons_zero, List.getElem?_cons_succ, List.set_cons_zero, List.set_cons_succ, List.map_cons, List.map_nil, List.length_cons, List.length_nil, List.replicate, List.append_nil, List.cons_append, List.nil_append, Bool.not_true, Bool.not_false, Bool.false_eq_true, if_true, if_false, reduceIte, ite_true, ite_false, Option.bind_some, Option.bind_none, Option.map_some, Option.map_none, Ev.fInT, Ev.fIxT, Ev.inT, Ev.ixT, Ev.insAt, Ev.fSelf, Ev.sFset, Ev.sFapp, Ev.sFaug, Ev.sFdput, Ev.sFpop, Ev.dicAt, Ev.keyD, Ev.sFnew, Ev.sMeth, Ev.doM, Ev.defI, Ev.outI, Ev.slot0, Ev.sBor, Ev.keepO, Ev.keepE, Ev.sPop, Ev.sExt, Ev.catD, Ev.fCat, Ev.isIns, Ev.isCl, Ev.fPm, Ev.fPm0, Ev.fProp, Ev.okOnly, Ev.fldC, Ev.fFldC, Ev.sRetFz, Ev.fCm, Ev.lStar, Ev.starL, Ev.fLstF, Ev.fLz, Ev.lzD, Ev.tyOk, Ev.tyNm, Ev.slD, Ev.bindT, Ev.bindTs, Ev.evP, Nat.reduceAdd, Nat.reduceLT, Nat.lt_irrefl, beq_self_eq_true, h2, e]
    rfl
  · have h2 : decide ((at_ : Int) < (ns.length : Int)) = false := decide_eq_false (by omega)
    by_cases h3 : 0 < ns.length
    · have h4 : decide (0 < (ns.length : Int)) = true := decide_eq_true (by omega)
      have h5 : 0 ≤ (at_ : Int) % (ns.length : Int) := Int.emod_nonneg _ (by omega)
      have h6 : (at_ : Int) % (ns.length : Int) < (ns.length : Int) := Int.emod_lt_of_pos _ (by omega)
      obtain ⟨x, e, _⟩ := atI_in (xs := ns) h5 h6
      by_cases h7 : (if x < 0 then -x else x) < 1000000000000000000
      · refine ⟨x, 60 * at_, by omega, ?_⟩
        have h8 : smallI 60 = true := by decide +kernel
        simp only [Ev.defF, Ev.startE, Ev.outR, Ev.sSeq, Ev.seqO, Ev.sSet, Ev.sIf, Ev.sFor, Ev.sRet, Ev.sRetOw, Ev.sNx, Ev.sApp, Ev.appO, Ev.lstAt, Ev.sFrz, Ev.unsO, Ev.bndS, Ev.bndSB, Ev.bndSL, Ev.bnd, Ev.bndB, Ev.bndL, Ev.bndI, Ev.okO, Ev.okB, Ev.okL, Ev.evVar, Ev.fC, Ev.fBin, Ev.fCmp, Ev.fNot, Ev.fAnd, Ev.fOr, Ev.fIf, Ev.fChain, Ev.fIx, Ev.fSl, Ev.evP, Ev.lNil, Ev.lCons, Ev.consL, Ev.fTup, Ev.fLst, Ev.fBi, Ev.fCall, Ev.fIsi, Ev.fM, Ev.iVal, Ev.iRng1, Ev.iRng2, Ev.iZip, Ev.addD, Ev.subD, Ev.mulD, Ev.divD, Ev.modD, Ev.op, Ev.cmpI, Ev.pLt, Ev.pLe, Ev.pGt, Ev.pGe, Ev.neD, Ev.isN, Ev.isnD, Ev.lenD, Ev.intD, Ev.absD, Ev.tupD, Ev.lstD, Ev.Tn.has, Ev.ixD, Ev.itemsD, Ev.rngF1, Ev.rngF2, List.getElem?_cons_zero, List.getElem?_cons_succ, List.set_cons_zero, List.set_cons_succ, List.map_cons, List.map_nil, List.length_cons, List.length_nil, List.replicate, List.append_nil, List.cons_append, List.nil_append, Bool.not_true, Bool.not_false, Bool.false_eq_true, if_true, if_false, reduceIte, ite_true, ite_false, Option.bind_some, Option.bind_none, Option.map_some, Option.map_none, Ev.fInT, Ev.fIxT, Ev.inT, Ev.ixT, Ev.insAt, Ev.fSelf, Ev.sFset, Ev.sFapp, Ev.sFaug, Ev.sFdput, Ev.sFpop, Ev.dicAt, Ev.keyD, Ev.sFnew, Ev.sMeth, Ev.doM, Ev.defI, Ev.outI, Ev.slot0, Ev.sBor, Ev.keepO, Ev.keepE, Ev.sPop, Ev.sExt, Ev.catD, Ev.fCat, Ev.isIns, Ev.isCl, Ev.fPm, Ev.fPm0, Ev.fProp, Ev.okOnly, Ev.fldC, Ev.fFldC, Ev.sRetFz, Ev.fCm, Ev.lStar, Ev.starL, Ev.fLstF, Ev.fLz, Ev.lzD, Ev.tyOk, Ev.tyNm, Ev.slD, Ev.bindT, Ev.bindTs, Ev.evP, Nat.reduceAdd, Nat.reduceLT, Nat.lt_irrefl, beq_self_eq_true, h2, h4, e, pow18, h7, h8, Bool.true_or, decide_true]
        rfl
      · refine ⟨0, 0, by omega, ?_⟩
        simp only [Ev.defF, Ev.startE, Ev.outR, Ev.sSeq, Ev.seqO, Ev.sSet, Ev.sIf, Ev.sFor, Ev.sRet, Ev.sRetOw, Ev.sNx, Ev.sApp, Ev.appO, Ev.lstAt, Ev.sFrz, Ev.unsO, Ev.bndS, Ev.bndSB, Ev.bndSL, Ev.bnd, Ev.bndB, Ev.bndL, Ev.bndI, Ev.okO, Ev.okB, Ev.okL, Ev.evVar, Ev.fC, Ev.fBin, Ev.fCmp, Ev.fNot, Ev.fAnd, Ev.fOr, Ev.fIf, Ev.fChain, Ev.fIx, Ev.fSl, Ev.evP, Ev.lNil, Ev.lCons, Ev.consL, Ev.fTup, Ev.fLst, Ev.fBi, Ev.fCall, Ev.fIsi, Ev.fM, Ev.iVal, Ev.iRng1, Ev.iRng2, Ev.iZip, Ev.addD, Ev.subD, Ev.mulD, Ev.divD, Ev.modD, Ev.op, Ev.cmpI, Ev.pLt, Ev.pLe, Ev.pGt, Ev.pGe, Ev.neD, Ev.isN, Ev.isnD, Ev.lenD, Ev.intD, Ev.absD, Ev.tupD, Ev.lstD, Ev.Tn.has, Ev.ixD, Ev.itemsD, Ev.rngF1, Ev.rngF2, List.getElem?_cons_zero, List.getElem?_cons_succ, List.set_cons_zero, List.set_cons_succ, List.map_cons, List.map_nil, List.length_cons, List.length_nil, List.replicate, List.append_nil, List.cons_append, List.nil_append, Bool.not_true, Bool.not_false, Bool.false_eq_true, if_true, if_false, reduceIte, ite_true, ite_false, Option.bind_some, Option.bind_none, Option.map_some, Option.map_none, Ev.fInT, Ev.fIxT, Ev.inT, Ev.ixT, Ev.insAt, Ev.fSelf, Ev.sFset, Ev.sFapp, Ev.sFaug, Ev.sFdput, Ev.sFpop, Ev.dicAt, Ev.keyD, Ev.sFnew, Ev.sMeth, Ev.doM, Ev.defI, Ev.outI, Ev.slot0, Ev.sBor, Ev.keepO, Ev.keepE, Ev.sPop, Ev.sExt, Ev.catD, Ev.fCat, Ev.isIns, Ev.isCl, Ev.fPm, Ev.fPm0, Ev.fProp, Ev.okOnly, Ev.fldC, Ev.fFldC, Ev.sRetFz, Ev.fCm, Ev.lStar, Ev.starL, Ev.fLstF, Ev.fLz, Ev.lzD, Ev.tyOk, Ev.tyNm, Ev.slD, Ev.bindT, Ev.bindTs, Ev.evP, Nat.reduceAdd, Nat.reduceLT, Nat.lt_irrefl, beq_self_eq_true, h2, h4, e, pow18, h7, decide_false]
        rfl
    · refine ⟨0, 0, by omega, ?_⟩
      have h4 : decide (0 < (ns.length : Int)) = false := decide_eq_false (by omega)
      simp only [Ev.defF, Ev.startE, Ev.outR, Ev.sSeq, Ev.seqO, Ev.sSet, Ev.sIf, Ev.sFor, Ev.sRet, Ev.sRetOw, Ev.sNx, Ev.sApp, Ev.appO, Ev.lstAt, Ev.sFrz, Ev.unsO, Ev.bndS, Ev.bndSB, Ev.bndSL, Ev.bnd, Ev.bndB, Ev.bndL, Ev.bndI, Ev.okO, Ev.okB, Ev.okL, Ev.evVar, Ev.fC, Ev.fBin, Ev.fCmp, Ev.fNot, Ev.fAnd, Ev.fOr, Ev.fIf, Ev.fChain, Ev.fIx, Ev.fSl, Ev.evP, Ev.lNil, Ev.lCons, Ev.consL, Ev.fTup, Ev.fLst, Ev.fBi, Ev.fCall, Ev.fIsi, Ev.fM, Ev.iVal, Ev.iRng1, Ev.iRng2, Ev.iZip, Ev.addD, Ev.subD, Ev.mulD, Ev.divD, Ev.modD, Ev.op, Ev.cmpI, Ev.pLt, Ev.pLe, Ev.pGt, Ev.pGe, Ev.neD, Ev.isN, Ev.isnD, Ev.lenD, Ev.intD, Ev.absD, Ev.tupD, Ev.lstD, Ev.Tn.has, Ev.ixD, Ev.itemsD, Ev.rngF1, Ev.rngF2, List.getElem?_cons_zero, List.getElem?_cons_succ, List.set_cons_zero, List.set_cons_succ, List.map_cons, List.map_nil, List.length_cons, List.length_nil, List.replicate, List.append_nil, List.cons_append, List.nil_append, Bool.not_true, Bool.not_false, Bool.false_eq_true, if_true, if_false, reduceIte, ite_true, ite_false, Option.bind_some, Option.bind_none, Option.map_some, Option.map_none, Ev.fInT, Ev.fIxT, Ev.inT, Ev.ixT, Ev.insAt, Ev.fSelf, Ev.sFset, Ev.sFapp, Ev.sFaug, Ev.sFdput, Ev.sFpop, Ev.dicAt, Ev.keyD, Ev.sFnew, Ev.sMeth, Ev.doM, Ev.defI, Ev.outI, Ev.slot0, Ev.sBor, Ev.keepO, Ev.keepE, Ev.sPop, Ev.sExt, Ev.catD, Ev.fCat, Ev.isIns, Ev.isCl, Ev.fPm, Ev.fPm0, Ev.fProp, Ev.okOnly, Ev.fldC, Ev.fFldC, Ev.sRetFz, Ev.fCm, Ev.lStar, Ev.starL, Ev.fLstF, Ev.fLz, Ev.lzD, Ev.tyOk, Ev.tyNm, Ev.slD, Ev.bindT, Ev.bindTs, Ev.evP, Nat.reduceAdd, Nat.reduceLT, Nat.lt_irrefl, beq_self_eq_true, h2, h4]
      rfl
def numsL1 : So := (sSeq (sSet 8 (fBin modD (fBi intD (lCons (fBin mulD (evVar 5) (fBin addD (fC (.int 48271)) (fBin mulD (fC (.int 69621)) (fBin addD (evVar 7) (evVar 4))))) lNil)) (fC (.int 2147483647))))
  (sSeq (sApp 6 (fBin modD (fBi intD (lCons (fBin mulD (fBin mulD (evVar 8) (evVar 8)) (fC (.int 16807))) lNil)) (fC (.int 2147483629))))
  sNx))
def numsL2 : So := (sSeq (sApp 6 (fBin modD (fBi intD (lCons (evVar 5) lNil)) (fC (.int 100))))
  (sSeq (sSet 5 (fBin divD (evVar 5) (fC (.int 100))))
  sNx))
def numsB : So := (sSeq (sIf (fCmp (op pLt) (evVar 5) (fBin powD (fC (.int 10)) (fC (.int 18)))) (sSeq (sFor (.nm 7) (iRng1 (evVar 2)) numsL1)
  (sSeq (sRetOw 6)
  sNx)) sNx)
  (sSeq (sFor (.nm 7) (iRng1 (evVar 2)) numsL2)
  (sSeq (sRetOw 6)
  sNx)))
theorem nums_loops (ns : List Int) (at_ many : Nat) (hm : many ≤ 1000) (cell size : Int) (skip : Nat) (h0 : 0 ≤ size) :
    ∃ (l : List Int) (δ : Ev.Env), l.length = many ∧ (∀ x ∈ l, 0 ≤ x) ∧ numsB [some (.lck ns), some (.int at_), some (.int many), some (.int cell), some (.int skip), some (.int size), some (nd []), none, none] = some (.ret (nd l) δ) := by
  by_cases hs : size < 1000000000000000000
  · have hs2 : decide (size < 1000000000000000000) = true := decide_eq_true hs
    obtain ⟨δ', e, l, hl, hx, o7, o8, rfl⟩ := forGo_ind (t := .nm 7) (body := numsL1) (fun i δ => ∃ l : List Int, l.length = i ∧ (∀ x ∈ l, 0 ≤ x) ∧ ∃ o7 o8, δ = [some (.lck ns), some (.int at_), some (.int many), some (.int cell), some (.int skip), some (.int size), some (nd l), o7, o8]) (rngD 0 (many : Int)) 0
      [some (.lck ns), some (.int at_), some (.int many), some (.int cell), some (.int skip), some (.int size), some (nd []), none, none] ⟨[], rfl, fun _ h => (nomatch h), none, none, rfl⟩ (by
        rintro i d δ hd ⟨l, hl, hx, o7, o8, rfl⟩
        obtain ⟨rfl, hi⟩ := rngD_get hd
        have g1 : smallI 69621 = true := by kernel_rfl
        have g2 : smallI size = true := smallI_of h0 (by omega)
        have g3 : smallI 16807 = true := by kernel_rfl
        have g5 : ∀ a : Int, smallI (a % 2147483647) = true := fun a => smallI_of (Int.emod_nonneg _ (by decide)) (by have := Int.emod_lt_of_pos a (show (0 : Int) < 2147483647 by decide); omega)
        have g6 : l.length < sizeLine := lt_sL (by omega)
        generalize hmx : (size * (48271 + 69621 * ((i : Int) + (skip : Int)))) % 2147483647 = mx
        have g7 : smallI mx = true := hmx ▸ g5 _
        refine ⟨_, [some (.lck ns), some (.int at_), some (.int many), some (.int cell), some (.int skip), some (.int size), some (nd (l ++ [(mx * mx * 16807) % 2147483629])), some (.int i), some (.int mx)], rfl, ?_, l ++ [(mx * mx * 16807) % 2147483629], ?_, ?_, _, _, rfl⟩
        · rw [nd_app]
          unfold numsL1
          simp only [Ev.defF, Ev.startE, Ev.outR, Ev.sSeq, Ev.seqO, Ev.sSet, Ev.sIf, Ev.sFor, Ev.sRet, Ev.sRetOw, Ev.sNx, Ev.sApp, Ev.appO, Ev.lstAt, Ev.sFrz, Ev.unsO, Ev.bndS, Ev.bndSB, Ev.bndSL, Ev.bnd, Ev.bndB, Ev.bndL, Ev.bndI, Ev.okO, Ev.okB, Ev.okL, Ev.evVar, Ev.fC, Ev.fBin, Ev.fCmp, Ev.fNot, Ev.fAnd, Ev.fOr, Ev.fIf, Ev.fChain, Ev.fIx, Ev.fSl, Ev.evP, Ev.lNil, Ev.lCons, Ev.consL, Ev.fTup, Ev.fLst, Ev.fBi, Ev.fCall, Ev.fIsi, Ev.fM, Ev.iVal, Ev.iRng1, Ev.iRng2, Ev.iZip, Ev.addD, Ev.subD, Ev.mulD, Ev.divD, Ev.modD, Ev.op, Ev.cmpI, Ev.pLt, Ev.pLe, Ev.pGt, Ev.pGe, Ev.neD, Ev.isN, Ev.isnD, Ev.lenD, Ev.intD, Ev.absD, Ev.tupD, Ev.lstD, Ev.Tn.has, Ev.ixD, Ev.itemsD, Ev.rngF1, Ev.rngF2, List.getElem?_cons_zero, List.getElem?_cons_succ, List.set_cons_zero, List.set_cons_succ, List.map_cons, List.map_nil, List.length_cons, List.length_nil, List.replicate, List.append_nil, List.cons_append, List.nil_append, Bool.not_true, Bool.not_false, Bool.false_eq_true, if_true, if_false, reduceIte, ite_true, ite_false, Option.bind_some, Option.bind_none, Option.map_some, Option.map_none, Ev.fInT, Ev.fIxT, Ev.inT, Ev.ixT, Ev.insAt, Ev.fSelf, Ev.sFset, Ev.sFapp, Ev.sFaug, Ev.sFdput, Ev.sFpop, Ev.dicAt, Ev.keyD, Ev.sFnew, Ev.sMeth, Ev.doM, Ev.defI, Ev.outI, Ev.slot0, Ev.sBor, Ev.keepO, Ev.keepE, Ev.sPop, Ev.sExt, Ev.catD, Ev.fCat, Ev.isIns, Ev.isCl, Ev.fPm, Ev.fPm0, Ev.fProp, Ev.okOnly, Ev.fldC, Ev.fFldC, Ev.sRetFz, Ev.fCm, Ev.lStar, Ev.starL, Ev.fLstF, Ev.fLz, Ev.lzD, Ev.tyOk, Ev.tyNm, Ev.slD, Ev.bindT, Ev.bindTs, Ev.evP, Nat.reduceAdd, Nat.reduceLT, Nat.lt_irrefl, beq_self_eq_true, g1, g2, g3, g7, g6, hmx, Bool.true_or, Bool.or_true, List.length_map, List.map_append, decide_true, show decide ((0 : Int) < 2147483647) = true from rfl, show decide ((0 : Int) < 2147483629) = true from rfl]
        · rw [List.length_append, List.length_singleton]; omega
        · intro x hq
          rcases List.mem_append.mp hq with q | q
          · exact hx x q
          · rw [List.mem_singleton.mp q]; exact Int.emod_nonneg _ (by decide))
    rw [rngD_len, Nat.zero_add] at hl
    refine ⟨l, [some (.lck ns), some (.int at_), some (.int many), some (.int cell), some (.int skip), some (.int size), none, o7, o8], hl, hx, ?_⟩
    unfold numsB
    simp only [Ev.defF, Ev.startE, Ev.outR, Ev.sSeq, Ev.seqO, Ev.sSet, Ev.sIf, Ev.sFor, Ev.sRet, Ev.sRetOw, Ev.sNx, Ev.sApp, Ev.appO, Ev.lstAt, Ev.sFrz, Ev.unsO, Ev.bndS, Ev.bndSB, Ev.bndSL, Ev.bnd, Ev.bndB, Ev.bndL, Ev.bndI, Ev.okO, Ev.okB, Ev.okL, Ev.evVar, Ev.fC, Ev.fBin, Ev.fCmp, Ev.fNot, Ev.fAnd, Ev.fOr, Ev.fIf, Ev.fChain, Ev.fIx, Ev.fSl, Ev.evP, Ev.lNil, Ev.lCons, Ev.consL, Ev.fTup, Ev.fLst, Ev.fBi, Ev.fCall, Ev.fIsi, Ev.fM, Ev.iVal, Ev.iRng1, Ev.iRng2, Ev.iZip, Ev.addD, Ev.subD, Ev.mulD, Ev.divD, Ev.modD, Ev.op, Ev.cmpI, Ev.pLt, Ev.pLe, Ev.pGt, Ev.pGe, Ev.neD, Ev.isN, Ev.isnD, Ev.lenD, Ev.intD, Ev.absD, Ev.tupD, Ev.lstD, Ev.Tn.has, Ev.ixD, Ev.itemsD, Ev.rngF1, Ev.rngF2, List.getElem?_cons_zero, List.getElem?_cons_succ, List.set_cons_zero, List.set_cons_succ, List.map_cons, List.map_nil, List.length_cons, List.length_nil, List.replicate, List.append_nil, List.cons_append, List.nil_append, Bool.not_true, Bool.not_false, Bool.false_eq_true, if_true, if_false, reduceIte, ite_true, ite_false, Option.bind_some, Option.bind_none, Option.map_some, Option.map_none, Ev.fInT, Ev.fIxT, Ev.inT, Ev.ixT, Ev.insAt, Ev.fSelf, Ev.sFset, Ev.sFapp, Ev.sFaug, Ev.sFdput, Ev.sFpop, Ev.dicAt, Ev.keyD, Ev.sFnew, Ev.sMeth, Ev.doM, Ev.defI, Ev.outI, Ev.slot0, Ev.sBor, Ev.keepO, Ev.keepE, Ev.sPop, Ev.sExt, Ev.catD, Ev.fCat, Ev.isIns, Ev.isCl, Ev.fPm, Ev.fPm0, Ev.fProp, Ev.okOnly, Ev.fldC, Ev.fFldC, Ev.sRetFz, Ev.fCm, Ev.lStar, Ev.starL, Ev.fLstF, Ev.fLz, Ev.lzD, Ev.tyOk, Ev.tyNm, Ev.slD, Ev.bindT, Ev.bindTs, Ev.evP, Nat.reduceAdd, Nat.reduceLT, Nat.lt_irrefl, beq_self_eq_true, pow18, hs2, rngOk0 (show many ≤ 1000000 by omega)]
    rw [e]
    simp only [Ev.defF, Ev.startE, Ev.outR, Ev.sSeq, Ev.seqO, Ev.sSet, Ev.sIf, Ev.sFor, Ev.sRet, Ev.sRetOw, Ev.sNx, Ev.sApp, Ev.appO, Ev.lstAt, Ev.sFrz, Ev.unsO, Ev.bndS, Ev.bndSB, Ev.bndSL, Ev.bnd, Ev.bndB, Ev.bndL, Ev.bndI, Ev.okO, Ev.okB, Ev.okL, Ev.evVar, Ev.fC, Ev.fBin, Ev.fCmp, Ev.fNot, Ev.fAnd, Ev.fOr, Ev.fIf, Ev.fChain, Ev.fIx, Ev.fSl, Ev.evP, Ev.lNil, Ev.lCons, Ev.consL, Ev.fTup, Ev.fLst, Ev.fBi, Ev.fCall, Ev.fIsi, Ev.fM, Ev.iVal, Ev.iRng1, Ev.iRng2, Ev.iZip, Ev.addD, Ev.subD, Ev.mulD, Ev.divD, Ev.modD, Ev.op, Ev.cmpI, Ev.pLt, Ev.pLe, Ev.pGt, Ev.pGe, Ev.neD, Ev.isN, Ev.isnD, Ev.lenD, Ev.intD, Ev.absD, Ev.tupD, Ev.lstD, Ev.Tn.has, Ev.ixD, Ev.itemsD, Ev.rngF1, Ev.rngF2, List.getElem?_cons_zero, List.getElem?_cons_succ, List.set_cons_zero, List.set_cons_succ, List.map_cons, List.map_nil, List.length_cons, List.length_nil, List.replicate, List.append_nil, List.cons_append, List.nil_append, Bool.not_true, Bool.not_false, Bool.false_eq_true, if_true, if_false, reduceIte, ite_true, ite_false, Option.bind_some, Option.bind_none, Option.map_some, Option.map_none, Ev.fInT, Ev.fIxT, Ev.inT, Ev.ixT, Ev.insAt, Ev.fSelf, Ev.sFset, Ev.sFapp, Ev.sFaug, Ev.sFdput, Ev.sFpop, Ev.dicAt, Ev.keyD, Ev.sFnew, Ev.sMeth, Ev.doM, Ev.defI, Ev.outI, Ev.slot0, Ev.sBor, Ev.keepO, Ev.keepE, Ev.sPop, Ev.sExt, Ev.catD, Ev.fCat, Ev.isIns, Ev.isCl, Ev.fPm, Ev.fPm0, Ev.fProp, Ev.okOnly, Ev.fldC, Ev.fFldC, Ev.sRetFz, Ev.fCm, Ev.lStar, Ev.starL, Ev.fLstF, Ev.fLz, Ev.lzD, Ev.tyOk, Ev.tyNm, Ev.slD, Ev.bindT, Ev.bindTs, Ev.evP, Nat.reduceAdd, Nat.reduceLT, Nat.lt_irrefl, beq_self_eq_true]
  · have hs2 : decide (size < 1000000000000000000) = false := decide_eq_false hs
    obtain ⟨δ', e, l, sz, hl, hx, hz, o7, rfl⟩ := forGo_ind (t := .nm 7) (body := numsL2) (fun i δ => ∃ (l : List Int) (sz : Int), l.length = i ∧ (∀ x ∈ l, 0 ≤ x) ∧ 0 ≤ sz ∧ ∃ o7, δ = [some (.lck ns), some (.int at_), some (.int many), some (.int cell), some (.int skip), some (.int sz), some (nd l), o7, none]) (rngD 0 (many : Int)) 0
      [some (.lck ns), some (.int at_), some (.int many), some (.int cell), some (.int skip), some (.int size), some (nd []), none, none] ⟨[], size, rfl, fun _ h => (nomatch h), h0, none, rfl⟩ (by
        rintro i d δ hd ⟨l, sz, hl, hx, hz, o7, rfl⟩
        obtain ⟨rfl, hi⟩ := rngD_get hd
        have g6 : l.length < sizeLine := lt_sL (by omega)
        refine ⟨_, [some (.lck ns), some (.int at_), some (.int many), some (.int cell), some (.int skip), some (.int (sz / 100)), some (nd (l ++ [sz % 100])), some (.int i), none], rfl, ?_, l ++ [sz % 100], sz / 100, ?_, ?_, Int.ediv_nonneg hz (by decide), _, rfl⟩
        · rw [nd_app]
          unfold numsL2
          simp only [Ev.defF, Ev.startE, Ev.outR, Ev.sSeq, Ev.seqO, Ev.sSet, Ev.sIf, Ev.sFor, Ev.sRet, Ev.sRetOw, Ev.sNx, Ev.sApp, Ev.appO, Ev.lstAt, Ev.sFrz, Ev.unsO, Ev.bndS, Ev.bndSB, Ev.bndSL, Ev.bnd, Ev.bndB, Ev.bndL, Ev.bndI, Ev.okO, Ev.okB, Ev.okL, Ev.evVar, Ev.fC, Ev.fBin, Ev.fCmp, Ev.fNot, Ev.fAnd, Ev.fOr, Ev.fIf, Ev.fChain, Ev.fIx, Ev.fSl, Ev.evP, Ev.lNil, Ev.lCons, Ev.consL, Ev.fTup, Ev.fLst, Ev.fBi, Ev.fCall, Ev.fIsi, Ev.fM, Ev.iVal, Ev.iRng1, Ev.iRng2, Ev.iZip, Ev.addD, Ev.subD, Ev.mulD, Ev.divD, Ev.modD, Ev.op, Ev.cmpI, Ev.pLt, Ev.pLe, Ev.pGt, Ev.pGe, Ev.neD, Ev.isN, Ev.isnD, Ev.lenD, Ev.intD, Ev.absD, Ev.tupD, Ev.lstD, Ev.Tn.has, Ev.ixD, Ev.itemsD, Ev.rngF1, Ev.rngF2, List.getElem?_cons_zero, List.getElem?_cons_succ, List.set_cons_zero, List.set_cons_succ, List.map_cons, List.map_nil, List.length_cons, List.length_nil, List.replicate, List.append_nil, List.cons_append, List.nil_append, Bool.not_true, Bool.not_false, Bool.false_eq_true, if_true, if_false, reduceIte, ite_true, ite_false, Option.bind_some, Option.bind_none, Option.map_some, Option.map_none, Ev.fInT, Ev.fIxT, Ev.inT, Ev.ixT, Ev.insAt, Ev.fSelf, Ev.sFset, Ev.sFapp, Ev.sFaug, Ev.sFdput, Ev.sFpop, Ev.dicAt, Ev.keyD, Ev.sFnew, Ev.sMeth, Ev.doM, Ev.defI, Ev.outI, Ev.slot0, Ev.sBor, Ev.keepO, Ev.keepE, Ev.sPop, Ev.sExt, Ev.catD, Ev.fCat, Ev.isIns, Ev.isCl, Ev.fPm, Ev.fPm0, Ev.fProp, Ev.okOnly, Ev.fldC, Ev.fFldC, Ev.sRetFz, Ev.fCm, Ev.lStar, Ev.starL, Ev.fLstF, Ev.fLz, Ev.lzD, Ev.tyOk, Ev.tyNm, Ev.slD, Ev.bindT, Ev.bindTs, Ev.evP, Nat.reduceAdd, Nat.reduceLT, Nat.lt_irrefl, beq_self_eq_true, g6, Bool.true_or, Bool.or_true, List.length_map, List.map_append, decide_true, show decide ((0 : Int) < 100) = true from rfl, show decide ((100 : Int) < 1073741824) = true from rfl, Bool.and_true]
        · rw [List.length_append, List.length_singleton]; omega
        · intro x hq
          rcases List.mem_append.mp hq with q | q
          · exact hx x q
          · rw [List.mem_singleton.mp q]; exact Int.emod_nonneg _ (by decide))
    rw [rngD_len, Nat.zero_add] at hl
    refine ⟨l, [some (.lck ns), some (.int at_), some (.int many), some (.int cell), some (.int skip), some (.int sz), none, o7, none], hl, hx, ?_⟩
    unfold numsB
    simp only [Ev.defF, Ev.startE, Ev.outR, Ev.sSeq, Ev.seqO, Ev.sSet, Ev.sIf, Ev.sFor, Ev.sRet, Ev.sRetOw, Ev.sNx, Ev.sApp, Ev.appO, Ev.lstAt, Ev.sFrz, Ev.unsO, Ev.bndS, Ev.bndSB, Ev.bndSL, Ev.bnd, Ev.bndB, Ev.bndL, Ev.bndI, Ev.okO, Ev.okB, Ev.okL, Ev.evVar, Ev.fC, Ev.fBin, Ev.fCmp, Ev.fNot, Ev.fAnd, Ev.fOr, Ev.fIf, Ev.fChain, Ev.fIx, Ev.fSl, Ev.evP, Ev.lNil, Ev.lCons, Ev.consL, Ev.fTup, Ev.fLst, Ev.fBi, Ev.fCall, Ev.fIsi, Ev.fM, Ev.iVal, Ev.iRng1, Ev.iRng2, Ev.iZip, Ev.addD, Ev.subD, Ev.mulD, Ev.divD, Ev.modD, Ev.op, Ev.cmpI, Ev.pLt, Ev.pLe, Ev.pGt, Ev.pGe, Ev.neD, Ev.isN, Ev.isnD, Ev.lenD, Ev.intD, Ev.absD, Ev.tupD, Ev.lstD, Ev.Tn.has, Ev.ixD, Ev.itemsD, Ev.rngF1, Ev.rngF2, List.getElem?_cons_zero, List.getElem?_cons_succ, List.set_cons_zero, List.set_cons_succ, List.map_cons, List.map_nil, List.length_cons, List.length_nil, List.replicate, List.append_nil, List.cons_append, List.nil_append, Bool.not_true, Bool.not_false, Bool.false_eq_true, if_true, if_false, reduceIte, ite_true, ite_false, Option.bind_some, Option.bind_none, Option.map_some, Option.map_none, Ev.fInT, Ev.fIxT, Ev.inT, Ev.ixT, Ev.insAt, Ev.fSelf, Ev.sFset, Ev.sFapp, Ev.sFaug, Ev.sFdput, Ev.sFpop, Ev.dicAt, Ev.keyD, Ev.sFnew, Ev.sMeth, Ev.doM, Ev.defI, Ev.outI, Ev.slot0, Ev.sBor, Ev.keepO, Ev.keepE, Ev.sPop, Ev.sExt, Ev.catD, Ev.fCat, Ev.isIns, Ev.isCl, Ev.fPm, Ev.fPm0, Ev.fProp, Ev.okOnly, Ev.fldC, Ev.fFldC, Ev.sRetFz, Ev.fCm, Ev.lStar, Ev.starL, Ev.fLstF, Ev.fLz, Ev.lzD, Ev.tyOk, Ev.tyNm, Ev.slD, Ev.bindT, Ev.bindTs, Ev.evP, Nat.reduceAdd, Nat.reduceLT, Nat.lt_irrefl, beq_self_eq_true, pow18, hs2, rngOk0 (show many ≤ 1000000 by omega)]
    rw [e]
    simp only [Ev.defF, Ev.startE, Ev.outR, Ev.sSeq, Ev.seqO, Ev.sSet, Ev.sIf, Ev.sFor, Ev.sRet, Ev.sRetOw, Ev.sNx, Ev.sApp, Ev.appO, Ev.lstAt, Ev.sFrz, Ev.unsO, Ev.bndS, Ev.bndSB, Ev.bndSL, Ev.bnd, Ev.bndB, Ev.bndL, Ev.bndI, Ev.okO, Ev.okB, Ev.okL, Ev.evVar, Ev.fC, Ev.fBin, Ev.fCmp, Ev.fNot, Ev.fAnd, Ev.fOr, Ev.fIf, Ev.fChain, Ev.fIx, Ev.fSl, Ev.evP, Ev.lNil, Ev.lCons, Ev.consL, Ev.fTup, Ev.fLst, Ev.fBi, Ev.fCall, Ev.fIsi, Ev.fM, Ev.iVal, Ev.iRng1, Ev.iRng2, Ev.iZip, Ev.addD, Ev.subD, Ev.mulD, Ev.divD, Ev.modD, Ev.op, Ev.cmpI, Ev.pLt, Ev.pLe, Ev.pGt, Ev.pGe, Ev.neD, Ev.isN, Ev.isnD, Ev.lenD, Ev.intD, Ev.absD, Ev.tupD, Ev.lstD, Ev.Tn.has, Ev.ixD, Ev.itemsD, Ev.rngF1, Ev.rngF2, List.getElem?_cons_zero, List.getElem?_cons_succ, List.set_cons_zero, List.set_cons_succ, List.map_cons, List.map_nil, List.length_cons, List.length_nil, List.replicate, List.append_nil, List.cons_append, List.nil_append, Bool.not_true, Bool.not_false, Bool.false_eq_true, if_true, if_false, reduceIte, ite_true, ite_false, Option.bind_some, Option.bind_none, Option.map_some, Option.map_none, Ev.fInT, Ev.fIxT, Ev.inT, Ev.ixT, Ev.insAt, Ev.fSelf, Ev.sFset, Ev.sFapp, Ev.sFaug, Ev.sFdput, Ev.sFpop, Ev.dicAt, Ev.keyD, Ev.sFnew, Ev.sMeth, Ev.doM, Ev.defI, Ev.outI, Ev.slot0, Ev.sBor, Ev.keepO, Ev.keepE, Ev.sPop, Ev.sExt, Ev.catD, Ev.fCat, Ev.isIns, Ev.isCl, Ev.fPm, Ev.fPm0, Ev.fProp, Ev.okOnly, Ev.fldC, Ev.fFldC, Ev.sRetFz, Ev.fCm, Ev.lStar, Ev.starL, Ev.fLstF, Ev.fLz, Ev.lzD, Ev.tyOk, Ev.tyNm, Ev.slD, Ev.bindT, Ev.bindTs, Ev.evP, Nat.reduceAdd, Nat.reduceLT, Nat.lt_irrefl, beq_self_eq_true]
theorem numbers (ns : List Int) (at_ many : Nat) (ha : at_ ≤ 1000) (hm : many ≤ 1000) : ∃ l : List Int, l.length = many ∧ (∀ x ∈ l, 0 ≤ x) ∧ φ_law_numbers [.lck ns, .int at_, .int many] = some (.ok (nd l)) := by
  obtain ⟨cell, skip, _, e1⟩ := nums_first ns at_ many ha
  have hsz : 0 ≤ (if cell < 0 then -cell else cell) + (if decide (cell < 0) = true then 1 else 0) := by
    by_cases h : cell < 0
    · rw [if_pos h, if_pos (decide_eq_true h)]; omega
    · rw [if_neg h, if_neg (by simp [h])]; omega
  obtain ⟨l, δ, hl, hx, e2⟩ := nums_loops ns at_ many hm cell _ skip hsz
  refine ⟨l, hl, hx, ?_⟩
  have key : g_law_numbers [some (.lck ns), some (.int at_), some (.int many), none, none, none, none, none, none] = some (.ret (nd l) δ) := by
    unfold g_law_numbers
    rw [seq_nx (δ' := [some (.lck ns), some (.int at_), some (.int many), some (.int 0), none, none, none, none, none]) rfl, seq_nx (δ' := [some (.lck ns), some (.int at_), some (.int many), some (.int 0), some (.int 0), none, none, none, none]) rfl, seq_nx e1,
      seq_nx (δ' := [some (.lck ns), some (.int at_), some (.int many), some (.int cell), some (.int skip), some (.int ((if cell < 0 then -cell else cell) + (if decide (cell < 0) = true then 1 else 0))), none, none, none]) rfl,
      seq_nx (δ' := [some (.lck ns), some (.int at_), some (.int many), some (.int cell), some (.int skip), some (.int ((if cell < 0 then -cell else cell) + (if decide (cell < 0) = true then 1 else 0))), some (nd []), none, none]) rfl]
    exact e2
  unfold φ_law_numbers defF
  rw [show startE 9 [D.lck ns, D.int at_, D.int many] = [some (.lck ns), some (.int at_), some (.int many), none, none, none, none, none, none] from rfl, key]
  rfl
end Q

set_option maxHeartbeats 4000000
namespace Q
open PySem PySem.Spec PyProof.Rows L2 Ev Z
def stL (l : List Str) : D := .lst (l.map D.str)
def nmD (lk hk rn : List Str) : D := .lst [stL lk, stL hk, stL rn]
def enD (q : Str × Int) : D := .lst [.str q.1, .int q.2]
theorem look_of_mem {x : Str} {k : Int} : ∀ {l : List (Str × Int)}, (l.map (·.1)).Nodup → (x, k) ∈ l → l.lookup x = some k
  | (y, v) :: l, nd, h => by
    rw [List.map_cons, List.nodup_cons] at nd
    rw [List.lookup_cons]
    rcases List.mem_cons.mp h with e | h
    · cases e; simp
    · have hne : (x == y) = false := by
        have : x ≠ y := fun e => nd.1 (e ▸ List.mem_map_of_mem (f := (·.1)) h)
        simpa using this
      rw [hne]
      exact look_of_mem nd.2 h
def tkNext (w x : Str) (tk : List Str) : List Str := if w = "acquire" then tk ++ [x] else if w = "release" then tk.dropLast else tk
/-- what _law_row's answer is worth -/
def RowOk (C : Ctx) (tk : List Str) (w x : Str) (c : Int) : Prop := w = "" ∨ (w ≠ "" ∧ (w = "release" → tk ≠ []) ∧ ∀ cost, stm C tk cost w x = some (tkNext w x tk, cost + c))
theorem sif_nx {fc : EF} {ga gb : So} {δ : Ev.Env} (h : fc δ = some (.ok (.bl false))) (hb : gb δ = some (.nx δ)) : sIf fc ga gb δ = some (.nx δ) := by simp only [sIf, h, bndSB, Bool.false_eq_true, if_false, hb]
theorem sif_t {fc : EF} {ga gb : So} {δ : Ev.Env} (h : fc δ = some (.ok (.bl true))) : sIf fc ga gb δ = ga δ := by simp only [sIf, h, bndSB, if_true]
def bodyE (code nm en : D) (rs : List (Str × Str)) (tk : List Str) (tot : Int) (a b c : Option D) : Ev.Env := [some code, some nm, some en, some (.lst (rs.map rwD)), some (stL tk), some (.int tot), a, b, c, none]
end Q

set_option maxHeartbeats 4000000
namespace Q
open PySem PySem.Spec PyProof.Rows L2 Ev Z
def inL (l : List Int) : D := .lst (l.map D.int)
theorem mod_int (i : Int) {j : Int} (h : 0 < j) : modD (.int i) (.int j) = some (.int (i % j)) := by
  show (if _ then _ else _) = _
  rw [if_pos (decide_eq_true h)]
theorem set_eq {i : Nat} {fa : EF} {δ : Ev.Env} {d : D} (h : fa δ = some (.ok d)) : sSet i fa δ = some (.nx (δ.set i (some d))) := by simp only [sSet, h, bndS]
theorem bin_eq {f : D → D → Option D} {fa fb : EF} {δ : Ev.Env} {x y d : D} (ha : fa δ = some (.ok x)) (hb : fb δ = some (.ok y)) (h : f x y = some d) : fBin f fa fb δ = some (.ok d) := by simp only [fBin, ha, hb, bnd, h, okO]
theorem ix_eq {fa fb : EF} {δ : Ev.Env} {x y d : D} (ha : fa δ = some (.ok x)) (hb : fb δ = some (.ok y)) (h : ixD x y = some d) : fIx fa fb δ = some (.ok d) := by simp only [fIx, ha, hb, bnd, h, okO]
theorem bi1_eq {g : List D → Option D} {fa : EF} {δ : Ev.Env} {x d : D} (ha : fa δ = some (.ok x)) (h : g [x] = some d) : fBi g (lCons fa lNil) δ = some (.ok d) := by simp only [fBi, lCons, lNil, ha, consL, bndL, h, okO]
theorem cmp_eq {f : D → D → Option Bool} {fa fb : EF} {δ : Ev.Env} {x y : D} {b : Bool} (ha : fa δ = some (.ok x)) (hb : fb δ = some (.ok y)) (h : f x y = some b) : fCmp f fa fb δ = some (.ok (.bl b)) := by simp only [fCmp, ha, hb, bnd, h, okB]
def pickL : So := (sSeq (sIf (fCmp (op pLt) (fBin modD (fBi intD (lCons (fIx (evVar 1) (evVar 4)) lNil)) (fC (.int 3))) (fC (.int 2))) (sSeq (sSet 5 (fBin modD (fBi intD (lCons (fBin divD (fIx (evVar 1) (evVar 4)) (fC (.int 3))) lNil)) (fBi lenD (lCons (evVar 2) lNil))))
  (sSeq (sApp 3 (fIx (evVar 2) (evVar 5)))
  (sSeq (sSet 2 (fBin addD (fSl (evVar 2) none (some (evVar 5))) (fSl (evVar 2) (some (fBin addD (evVar 5) (fC (.int 1)))) none)))
  sNx))) sNx)
  sNx)
def words14 : List Str := ["end", "a", "invoke", "start", "hook", "release", "callback", "call", "skip", "baaaaaaa", "acquire", "return", "done", "entry"]
def steps6 : List Int := [1, 3, 5, 9, 11, 13]
def nameList (s : Nat) (st : Int) : List Str := (List.range 14).map fun k : Nat => words14.getD (((s : Int) + st * (k : Int)) % 14).toNat ""
def fresh3 : List Str := ["zz", "zy", "zzz"]
theorem names_fine : ∀ s ∈ List.range 14, ∀ st ∈ steps6, (nameList s st).Nodup ∧ (∀ x ∈ nameList s st, nameB x = true) ∧ ∀ z ∈ fresh3, z ∉ nameList s st := by decide +kernel
structure Names (W : List Str) : Prop where
  l : W.length = 14
  nd : W.Nodup
  nb : ∀ x ∈ W, nameB x = true
theorem rng14 : rngD 0 14 = (List.range 14).map fun k : Nat => D.int (k : Int) := by kernel_rfl
theorem names_eq (a b : Int) : ∃ W : List Str, φ_law_names [.int a, .int b] = some (.ok (stL W)) ∧ Names W ∧ ∀ z ∈ fresh3, z ∉ W := by
  have hb0 : 0 ≤ b % 6 := Int.emod_nonneg _ (by decide)
  have hb1 : b % 6 < 6 := Int.emod_lt_of_pos _ (by decide)
  have ha0 : 0 ≤ a % 14 := Int.emod_nonneg _ (by decide)
  have ha1 : a % 14 < 14 := Int.emod_lt_of_pos _ (by decide)
  obtain ⟨s, hs⟩ := Int.eq_ofNat_of_zero_le ha0
  obtain ⟨dst, hst, hm⟩ := atI_in (xs := steps6.map D.int) (i := b % 6) hb0 (by show b % 6 < ((6 : Nat) : Int); omega)
  obtain ⟨st, hst2, rfl⟩ := List.mem_map.mp hm
  obtain ⟨f1, f2, f3⟩ := names_fine s (List.mem_range.mpr (by omega)) st hst2
  refine ⟨nameList s st, ?_, ⟨by simp [nameList], f1, f2⟩, f3⟩
  unfold φ_law_names defF
  rw [show startE 4 [D.int a, D.int b] = [some (.int a), some (.int b), none, none] from rfl]
  unfold g_law_names
  rw [seq_nx (δ' := [some (.int a), some (.int b), some (stL words14), none]) rfl]
  have e : lcF (.nm 3) none (fIx (evVar 2) (fBin modD (fBi intD (lCons (fBin addD (evVar 0) (fBin mulD (fIx (fLst (lCons (fC (.int 1)) (lCons (fC (.int 3)) (lCons (fC (.int 5)) (lCons (fC (.int 9)) (lCons (fC (.int 11)) (lCons (fC (.int 13)) lNil))))))) (fBin modD (fBi intD (lCons (evVar 1) lNil)) (fC (.int 6)))) (evVar 3))) lNil)) (fC (.int 14)))) (iRng1 (fC (.int 14))) [3] [some (.int a), some (.int b), some (stL words14), none] = some (.ok (stL (nameList s st))) := by
    have : stL (nameList s st) = .lst ((List.range 14).map fun k : Nat => D.str (words14.getD (((s : Int) + st * (k : Int)) % 14).toNat "")) := by unfold stL nameList; rw [List.map_map]; rfl
    rw [this]
    refine lc_map (enc := fun k : Nat => D.int (k : Int)) _ (List.range 14) ?_ (by decide) fun k hk => ⟨_, rfl, ?_⟩
    · simp only [Ev.iRng1, fC, bndI, rngF1]
      rw [show (14 : Int) = ((14 : Nat) : Int) from rfl, rngOk0 (by omega), ← rng14]
      rfl
    · have hk := List.mem_range.mp hk
      have q0 : 0 ≤ ((s : Int) + st * (k : Int)) % 14 := Int.emod_nonneg _ (by decide)
      have q1 : ((s : Int) + st * (k : Int)) % 14 < 14 := Int.emod_lt_of_pos _ (by decide)
      have e1 : (a + st * (k : Int)) % 14 = ((s : Int) + st * (k : Int)) % 14 := by
        have : (s : Int) = a % 14 := hs.symm
        rw [this, Int.emod_add_emod]
      obtain ⟨j, hj⟩ := Int.eq_ofNat_of_zero_le q0
      have hj2 : j < words14.length := by show j < 14; omega
      have e2 : atI (words14.map D.str) (((s : Int) + st * (k : Int)) % 14) = some (.str (words14.getD (((s : Int) + st * (k : Int)) % 14).toNat "")) := by
        rw [hj, atI_lit, List.getElem?_map, List.getElem?_eq_getElem hj2]
        show some (D.str words14[j]) = some (D.str (words14.getD (j : Int).toNat ""))
        rw [Int.toNat_natCast, List.getD_eq_getElem?_getD, List.getElem?_eq_getElem hj2]
        rfl
      have e3 : atI [D.int 1, .int 3, .int 5, .int 9, .int 11, .int 13] (b % 6) = some (.int st) := hst
      have e4 : mulD (.int st) (.int (k : Int)) = some (.int (st * k)) := by
        show (if _ then _ else _) = _
        rw [if_pos]
        rw [Bool.or_eq_true]
        right
        unfold smallI
        exact decide_eq_true (by omega)
      simp only [fIx, fBin, fBi, fLst, lCons, lNil, fC, evVar, unsetL, consL, bndL, bnd, List.getElem?_cons_succ, List.getElem?_cons_zero, List.set_cons_succ, List.set_cons_zero, Ev.intD, okO, mod_int _ (show (0 : Int) < 6 by decide), mod_int _ (show (0 : Int) < 14 by decide), ixD, e3, e4, add_int, e1, stL, e2]
  simp only [sSeq, sRet, e, bndS, seqO, outR]
end Q

set_option maxHeartbeats 4000000
namespace Q
open PySem PySem.Spec PyProof.Rows L2 Ev Z
theorem cons_eq {fa : EF} {fs : EL} {δ : Ev.Env} {d : D} {ds : List D} (ha : fa δ = some (.ok d)) (hs : fs δ = some (.ok ds)) : lCons fa fs δ = some (.ok (d :: ds)) := by simp only [lCons, ha, hs, consL]
theorem call_eq {φ : Fn} {fs : EL} {δ : Ev.Env} {ds : List D} {r : D} (hs : fs δ = some (.ok ds)) (h : φ ds = some (.ok r)) : fCall φ fs δ = some (.ok r) := by simp only [fCall, hs, bndL, h]
theorem ret_eq {fa : EF} {δ : Ev.Env} {d : D} (h : fa δ = some (.ok d)) : sSeq (sRet fa) sNx δ = some (.ret d δ) := seq_ret (by simp only [sRet, h, bndS])
def made10 : List Str := ["ab/ba", "cab/cba", "ab/bc/ca", "aw/ba/b", "cw/cba/ab", "ab-c/ba-ca", "acb/bca", "b/ap/ba", "w/ap/ab/ba", "aab-P/bQa"]
abbrev s28 : Str := ".abcdeabcde---wxyzpqrstPQRST"
def sgn (d : Int) : Str := ⟨#[s28.cps.toList.getD (d % 28).toNat 0]⟩
end Q

set_option maxHeartbeats 4000000
namespace Q
open PySem PySem.Spec PyProof.Rows L2 Ev Z
def RoutsTo (lk hk rn : List Str) : List (Str × Int) → List Rt → List (Str × Int) → Prop
  | le, [], E => E = le
  | le, r :: rs, E => ∃ c, BodyOk ⟨lk, hk, rn, le⟩ r.rows c ∧ RoutsTo lk hk rn (le ++ [(r.n, c + 1)]) rs E
theorem get_str {l : List Str} {i : Nat} (h : i < l.length) : ixD (stL l) (.int (i : Int)) = some (.str l[i]) := by
  show atI (l.map D.str) (i : Int) = _
  rw [atI_lit, List.getElem?_map, List.getElem?_eq_getElem h]; rfl
theorem get_int {l : List Int} {i : Nat} (h : i < l.length) : ixD (inL l) (.int (i : Int)) = some (.int l[i]) := by
  show atI (l.map D.int) (i : Int) = _
  rw [atI_lit, List.getElem?_map, List.getElem?_eq_getElem h]; rfl
theorem mul_int (i j : Int) (h : smallI i = true) : mulD (.int i) (.int j) = some (.int (i * j)) := by
  show (if _ then _ else _) = _
  rw [if_pos (by rw [h, Bool.true_or])]
theorem app_eq {i : Nat} {fa : EF} {δ : Ev.Env} {ds : List D} {d : D} (h0 : δ[i]? = some (some (.lst ds))) (hf : fa δ = some (.ok d)) (hl : ds.length ≤ 1000000) : sApp i fa δ = some (.nx (δ.set i (some (.lst (ds ++ [d]))))) := by
  simp only [sApp, lstAt, h0, Option.bind_some, hf, bndS, appO, lt_sL hl, if_true]
def CbOk (rn : List Str) (h : Hk) : Prop := h.cbs.Nodup ∧ h.cbs.length ≤ 5 ∧ ∀ x ∈ h.cbs, x ∈ rn
end Q

set_option maxHeartbeats 4000000
namespace Q
open PySem PySem.Spec PyProof.Rows L2 Ev Z
theorem slS_lo {fa fl : EF} {δ : Ev.Env} {l : List Str} {a : Nat} (ha : fa δ = some (.ok (stL l))) (hl : fl δ = some (.ok (.int (a : Int)))) : fSl fa (some fl) none δ = some (.ok (stL (l.drop a))) := by
  simp only [fSl, ha, bnd, evP, hl, stL, slD, cut_lo, okO, List.map_drop]
theorem slS_hi {fa fu : EF} {δ : Ev.Env} {l : List Str} {b : Nat} (ha : fa δ = some (.ok (stL l))) (hu : fu δ = some (.ok (.int (b : Int)))) : fSl fa none (some fu) δ = some (.ok (stL (l.take b))) := by
  simp only [fSl, ha, bnd, evP, hu, stL, slD, cut_hi, okO, List.map_take]
theorem add_st {xs ys : List Str} (h : xs.length + ys.length ≤ 1000000) : addD (stL xs) (stL ys) = some (stL (xs ++ ys)) := by
  show (if _ then _ else _) = _
  rw [if_pos (by rw [List.length_map, List.length_map]; exact le_sL h)]
  unfold stL
  rw [List.map_append]
theorem mod_nat (d : Int) (n : Nat) (h : 0 < n) : ∃ k : Nat, d % (n : Int) = (k : Int) ∧ k < n := by
  obtain ⟨k, hk⟩ := Int.eq_ofNat_of_zero_le (Int.emod_nonneg d (show (n : Int) ≠ 0 by omega))
  have := Int.emod_lt_of_pos d (show (0 : Int) < (n : Int) by omega)
  exact ⟨k, hk, by omega⟩
/-- the three kinds of names cut out of fourteen -/
structure Cut (W lk hk rn : List Str) : Prop where
  sub : (lk ++ (hk ++ rn)).Sublist W
  l5 : lk.length ≤ 5
  h4 : hk.length ≤ 4
  r5 : rn.length ≤ 5
def szs : List Int := [0, 2, 3, 5, 1, 3, 4, 2, 5, 4]
def szm : List Int := [3, 2, 4, 5]
def Zn (L : Lb) : Prop := ("zz" : Str) ∉ L.locks ++ (L.hooks.map Hk.n ++ L.routs.map Rt.n)
/-- .. nor are zy and zzz -/
def Zy (L : Lb) : Prop := ∀ z ∈ fresh3, z ∉ L.locks ++ (L.hooks.map Hk.n ++ L.routs.map Rt.n)
end Q

set_option maxHeartbeats 4000000
namespace Q
open PySem PySem.Spec PyProof.Rows L2 Ev Z
theorem lc_filt {α : Type} {enc : α → D} {t : Tg} {ft fe : EF} {fi : EL} {own : List Nat} {δ : Ev.Env} (p : α → Bool) (f : α → D) (l : List α) (hi : fi δ = some (.ok (l.map enc))) (hl : l.length ≤ 1000000) (h : ∀ x ∈ l, ∃ δ1, bindT t (enc x) (unsetL δ own) = some δ1 ∧ ft δ1 = some (.ok (.bl (p x))) ∧ fe δ1 = some (.ok (f x))) : lcF t (some ft) fe fi own δ = some (.ok (.lst ((l.filter p).map f))) := by
  have go : ∀ l : List α, (∀ x ∈ l, ∃ δ1, bindT t (enc x) (unsetL δ own) = some δ1 ∧ ft δ1 = some (.ok (.bl (p x))) ∧ fe δ1 = some (.ok (f x))) → lcGo t (some ft) fe (unsetL δ own) (l.map enc) = some ((l.filter p).map f) := by
    intro l
    induction l with
    | nil => intro _; rfl
    | cons x l ih =>
      intro h
      obtain ⟨δ1, e1, e2, e3⟩ := h x (List.mem_cons_self ..)
      have ih := ih fun y hy => h y (List.mem_cons_of_mem _ hy)
      simp only [List.map_cons, lcGo, e1, Option.bind_some, tstD, e2]
      cases hp : p x with
      | true => rw [List.filter_cons_of_pos hp]; simp only [if_true, eltD, e3, Option.bind_some, ih, Option.map_some, List.map_cons]
      | false => rw [List.filter_cons_of_neg (by rw [hp]; decide)]; simp only [if_false, Bool.false_eq_true, ih]
  unfold lcF
  rw [hi]
  show okO (lcD t (some ft) fe (unsetL δ own) (l.map enc)) = _
  unfold lcD
  rw [if_pos (by rw [List.length_map]; exact lt_sL hl), go l h]
  rfl
theorem or_eq {fa fb : EF} {δ : Ev.Env} {a b : Bool} (ha : fa δ = some (.ok (.bl a))) (hb : fb δ = some (.ok (.bl b))) : fOr fa fb δ = some (.ok (.bl (a || b))) := by
  cases a <;> simp only [fOr, ha, bndB, if_true, if_false, Bool.false_eq_true, hb, Bool.true_or, Bool.false_or]
theorem and_eq {fa fb : EF} {δ : Ev.Env} {a b : Bool} (ha : fa δ = some (.ok (.bl a))) (hb : fb δ = some (.ok (.bl b))) : fAnd fa fb δ = some (.ok (.bl (a && b))) := by
  cases a <;> simp only [fAnd, ha, bndB, if_true, if_false, Bool.false_eq_true, hb, Bool.true_and, Bool.false_and]
theorem not_eq {fa : EF} {δ : Ev.Env} {a : Bool} (ha : fa δ = some (.ok (.bl a))) : fNot fa δ = some (.ok (.bl (!a))) := by simp only [fNot, ha, bndB]
end Q

set_option maxHeartbeats 4000000
namespace Q
open PySem PySem.Spec PyProof.Rows L2 Ev Z
def stp (tk : List Str) (w x : Str) : List Str := if w = "acquire" then tk ++ [x] else if w = "release" then tk.dropLast else tk
/-- the locks held behind each row -/
def aft : List Str → List (Str × Str) → List (List Str)
  | _, [] => []
  | tk, (w, x) :: l => stp tk w x :: aft (stp tk w x) l
/-- ahead of each row -/
def bef : List Str → List (Str × Str) → List (List Str)
  | _, [] => []
  | tk, (w, x) :: l => tk :: bef (stp tk w x) l
def tps (l : List (List Str)) : List D := l.map fun x => .tup (x.map D.str)
def hldD (rows : List (Str × Str)) : D := .tup (tps ([] :: aft [] rows))
/-- the two tests on a row's word, on a list held in slot i; w in slot j, x in slot k -/
def stpS (i j k : Nat) (K : So) : So := (sSeq (sIf (fCmp (eqD) (evVar j) (fC (.str "acquire"))) (sSeq (sApp i (evVar k))
  sNx) sNx)
  (sSeq (sIf (fCmp (eqD) (evVar j) (fC (.str "release"))) (sSeq (sPop i)
  sNx) sNx)
  K))
def heldL : So := stpS 1 3 4 (sSeq (sApp 2 (fBi tupD (lCons (evVar 1) lNil))) sNx)
def xNo (x : Str) : Xd := ⟨8, [.str x]⟩
end Q

set_option maxHeartbeats 4000000
namespace Q
open PySem PySem.Spec PyProof.Rows L2 Ev Z
theorem atI_m1 {α : Type} (xs : List α) : atI xs (-1) = xs.getLast? := by
  unfold atI ixN
  rw [if_neg (by omega)]
  cases xs with
  | nil => simp
  | cons x xs =>
    rw [if_pos (by rw [List.length_cons]; omega), List.getLast?_eq_getElem?]
    show (x :: xs)[((-1 : Int) + ((x :: xs).length : Int)).toNat]? = _
    congr 1
    rw [List.length_cons]
    omega
theorem tupE' {fs : EL} {δ : Ev.Env} {ds : List D} (hs : fs δ = some (.ok ds)) : fTup fs δ = some (.ok (.tup ds)) := by simp only [fTup, hs, bndL]
theorem tupFE' {fs : EL} {δ : Ev.Env} {ds : List D} (hs : fs δ = some (.ok ds)) (hl : ds.length ≤ 1000) : fTupF fs δ = some (.ok (.tup ds)) := by simp only [fTupF, hs, bndL, if_pos hl]
theorem starT {fa : EF} {fs : EL} {δ : Ev.Env} {xs ds : List D} (ha : fa δ = some (.ok (.tup xs))) (hs : fs δ = some (.ok ds)) : lStar fa fs δ = some (.ok (xs ++ ds)) := by
  simp only [lStar, ha, hs, starL]
def nmA (W : List Str) (k : Nat) : Str := W.getD k ""
theorem nmA_get {W : List Str} {k : Nat} (h : k < W.length) : W[k]? = some (nmA W k) := by
  unfold nmA
  rw [List.getD_eq_getElem?_getD, List.getElem?_eq_getElem h]
  rfl
theorem nmA_mem {W : List Str} {k : Nat} (h : k < W.length) : nmA W k ∈ W := List.mem_of_getElem? (nmA_get h)
theorem nmA_inj {W : List Str} (nd : W.Nodup) {i j : Nat} (hi : i < W.length) (hj : j < W.length) (e : nmA W i = nmA W j) : i = j := by
  have h1 := nmA_get hi
  have h2 := nmA_get hj
  rw [e, ← h2] at h1
  exact (List.getElem?_inj hi nd).mp h1
theorem idxS_nm : ∀ {W : List Str} {k : Nat}, W.Nodup → k < W.length → idxS (nmA W k) W = some k
  | [], k, _, h => by simp at h
  | y :: l, 0, _, _ => by simp [idxS, nmA]
  | y :: l, k + 1, nd, h => by
    have hk : k < l.length := by simpa using h
    have nd' := List.nodup_cons.mp nd
    have e : nmA (y :: l) (k + 1) = nmA l k := by simp [nmA]
    rw [e]
    unfold idxS
    rw [if_neg (fun z => nd'.1 (by rw [z]; exact nmA_mem hk)), idxS_nm nd'.2 hk]
    rfl
theorem drop_nm (W : List Str) (a : Nat) : W.drop a = (List.range' a (W.length - a)).map (nmA W) := by
  apply List.ext_getElem?
  intro i
  rw [List.getElem?_drop, List.getElem?_map]
  by_cases h : i < W.length - a
  · rw [List.getElem?_range' h]
    simp only [Option.map_some, Nat.one_mul]
    exact nmA_get (by omega)
  · rw [List.getElem?_eq_none (by omega), List.getElem?_eq_none (by rw [List.length_range']; omega)]
    rfl
theorem unS_str : ∀ l : List Str, unS (l.map D.str) = some l
  | [] => rfl
  | y :: l => by
    rw [List.map_cons]
    show (unS (l.map D.str)).map _ = _
    rw [unS_str l]
    rfl
theorem tix_eq {fa fb : EF} {δ : Ev.Env} {W : List Str} {z : Str} {k : Nat} (ha : fa δ = some (.ok (.tup (W.map D.str)))) (hb : fb δ = some (.ok (.str z))) (h : idxS z W = some k) : fTix fa (lCons fb lNil) δ = some (.ok (.int (k : Int))) := by
  have e : idxD (W.map D.str) [.str z] = some (.int (k : Int)) := by
    unfold idxD
    simp [unS_str, h]
  have e2 : lCons fb lNil δ = some (.ok [.str z]) := cons_eq (ds := []) hb rfl
  unfold fTix
  rw [ha]
  simp only [bnd, unS_str, e2, bndL, e, okO]
def hd0 (r : List Nat) : Nat := r.getD 0 0
def ls0 (r : List Nat) : Nat := r.getD (r.length - 1) 0
def sucs (n : Nat) (P : Nat → Nat → Bool) (r : List Nat) : List (List Nat) := ((List.range' (hd0 r + 1) (n - (hd0 r + 1))).filter fun k => !decide (k ∈ r) && P (ls0 r) k).map fun k => r ++ [k]
def exts (n : Nat) (P : Nat → Nat → Bool) (rows : List (List Nat)) : List (List Nat) := rows.flatMap (sucs n P)
def CyRow (n : Nat) (r : List Nat) : Prop := r ≠ [] ∧ r.Nodup ∧ ∀ k ∈ r, k < n
def nmV (W : List Str) (k : Nat) : D := .str (nmA W k)
def rowT (W : List Str) (r : List Nat) : D := .tup (r.map (nmV W))
theorem rowT_str (W : List Str) (r : List Nat) : rowT W r = .tup ((r.map (nmA W)).map D.str) := by unfold rowT nmV; rw [List.map_map]; rfl
theorem hd0_get {r : List Nat} (h : r ≠ []) : r[0]? = some (hd0 r) := by
  cases r with
  | nil => exact absurd rfl h
  | cons a l => rfl
theorem ls0_get {r : List Nat} (h : r ≠ []) : r.getLast? = some (ls0 r) := by
  rw [List.getLast?_eq_getElem?]
  have : r.length - 1 < r.length := by have := List.length_pos_iff.mpr h; omega
  unfold ls0
  rw [List.getD_eq_getElem?_getD, List.getElem?_eq_getElem this]
  rfl
theorem hd0_mem {r : List Nat} (h : r ≠ []) : hd0 r ∈ r := List.mem_of_getElem? (hd0_get h)
theorem ls0_mem {r : List Nat} (h : r ≠ []) : ls0 r ∈ r := List.mem_of_getLast? (ls0_get h)
theorem mem_nm {W : List Str} (nd : W.Nodup) {r : List Nat} {k : Nat} (hr : ∀ j ∈ r, j < W.length) (hk : k < W.length) : nmA W k ∈ r.map (nmA W) ↔ k ∈ r := by
  constructor
  · intro h
    obtain ⟨j, hj, e⟩ := List.mem_map.mp h
    rw [← nmA_inj nd (hr j hj) hk e]
    exact hj
  · exact fun h => List.mem_map_of_mem h
/-- the pairs, as the program and the law see them -/
def PrOk (W : List Str) (P : Nat → Nat → Bool) (p : D) : Prop := ∀ i j, i < W.length → j < W.length → inN false (.tup [nmV W i, nmV W j]) p = some (P i j) ∧ inN true (.tup [nmV W i, nmV W j]) p = some (!P i j)
theorem sucs_ok {n : Nat} {P : Nat → Nat → Bool} {r : List Nat} (h : CyRow n r) : ∀ q ∈ sucs n P r, CyRow n q ∧ q.length = r.length + 1 := fun q hq => by
  obtain ⟨k, hk, rfl⟩ := List.mem_map.mp hq
  obtain ⟨hk1, hk2⟩ := List.mem_filter.mp hk
  simp only [Bool.and_eq_true, Bool.not_eq_true', decide_eq_false_iff_not] at hk2
  have hr := List.mem_range'_1.mp hk1
  refine ⟨⟨by simp, ?_, fun j hj => ?_⟩, by simp⟩
  · refine List.nodup_append.mpr ⟨h.2.1, by simp, fun a ha b hb => ?_⟩
    rw [List.mem_singleton.mp hb]
    exact fun e => hk2.1 (e ▸ ha)
  · rcases List.mem_append.mp hj with hj | hj
    · exact h.2.2 j hj
    · rw [List.mem_singleton.mp hj]; omega
theorem sucs_len (n : Nat) (P : Nat → Nat → Bool) (r : List Nat) : (sucs n P r).length ≤ n := by
  unfold sucs
  rw [List.length_map]
  refine Nat.le_trans (List.length_filter_le _ _) ?_
  rw [List.length_range']
  omega
theorem exts_len (n : Nat) (P : Nat → Nat → Bool) : ∀ rows : List (List Nat), (exts n P rows).length ≤ rows.length * n
  | [] => by simp [exts]
  | r :: rows => by
    have h1 := sucs_len n P r
    have h2 := exts_len n P rows
    show ((sucs n P r) ++ (exts n P rows)).length ≤ _
    rw [List.length_append, List.length_cons, Nat.add_mul, Nat.one_mul]
    omega
def lrIn : So := (sSeq (sIf (fAnd (fCmp (inN true) (evVar 5) (evVar 4)) (fCmp (inN false) (fTup (lCons (fIx (evVar 4) (fC (.int (-1)))) (lCons (evVar 5) lNil))) (evVar 2))) (sSeq (sApp 3 (fTupF (lStar (evVar 4) (lCons (evVar 5) lNil))))
  sNx) sNx)
  sNx)
def lnE (W : List Str) (rows p : D) (acc : List (List Nat)) (o4 o5 : Option D) : Ev.Env := [some rows, some (.tup (W.map D.str)), some p, some (.lst (acc.map (rowT W))), o4, o5]
theorem lr_in {W : List Str} (nd : W.Nodup) {P : Nat → Nat → Bool} {rows p : D} (hp : PrOk W P p) {r : List Nat} (hr : CyRow W.length r) (acc : List (List Nat)) (ks : List Nat) (hk : ∀ k ∈ ks, k < W.length) (hl : acc.length + ks.length ≤ 900000) (hrl : r.length ≤ 900) (o5 : Option D) :
    ∃ o5', forGo (.nm 5) lrIn (ks.map (nmV W)) (lnE W rows p acc (some (rowT W r)) o5) = some (.nx (lnE W rows p (acc ++ (ks.filter fun k => !decide (k ∈ r) && P (ls0 r) k).map fun k => r ++ [k]) (some (rowT W r)) o5')) := by
  obtain ⟨δ', e, o5', rfl⟩ := forGo_pre (enc := nmV W) (t := .nm 5) (body := lrIn) (fun dn δ => ∃ o5, δ = lnE W rows p (acc ++ (dn.filter fun k => !decide (k ∈ r) && P (ls0 r) k).map fun k => r ++ [k]) (some (rowT W r)) o5) ks (lnE W rows p acc (some (rowT W r)) o5) ⟨o5, by simp⟩ (by
    rintro dn k rest δ he ⟨o5, rfl⟩
    have hkl : k < W.length := hk k (by rw [he]; simp)
    generalize hA : acc ++ (dn.filter fun k => !decide (k ∈ r) && P (ls0 r) k).map (fun k => r ++ [k]) = A
    have hAl : A.length ≤ 900000 := by
      rw [← hA, List.length_append, List.length_map]
      have h1 := List.length_filter_le (fun k => !decide (k ∈ r) && P (ls0 r) k) dn
      have h2 := congrArg List.length he
      rw [List.length_append, List.length_cons] at h2
      omega
    refine ⟨lnE W rows p A (some (rowT W r)) (some (nmV W k)), lnE W rows p (A ++ (if (!decide (k ∈ r) && P (ls0 r) k) = true then [r ++ [k]] else [])) (some (rowT W r)) (some (nmV W k)), rfl, ?_, some (nmV W k), ?_⟩
    · have c1 : fCmp (inN true) (evVar 5) (evVar 4) (lnE W rows p A (some (rowT W r)) (some (nmV W k))) = some (.ok (.bl (!decide (k ∈ r)))) := by
        refine cmp_eq (x := .str (nmA W k)) (y := .tup ((r.map (nmA W)).map D.str)) rfl (by rw [← rowT_str]; rfl) ?_
        rw [nin_tup]
        congr 2
        exact decide_eq_decide.mpr (mem_nm nd hr.2.2 hkl)
      have c2 : fCmp (inN false) (fTup (lCons (fIx (evVar 4) (fC (.int (-1)))) (lCons (evVar 5) lNil))) (evVar 2) (lnE W rows p A (some (rowT W r)) (some (nmV W k))) = some (.ok (.bl (P (ls0 r) k))) := by
        refine cmp_eq (x := .tup [nmV W (ls0 r), nmV W k]) (y := p) (tupE' (cons_eq (ix_eq (x := rowT W r) (y := .int (-1)) rfl rfl ?_) (cons_eq rfl rfl))) rfl (hp _ _ (hr.2.2 _ (ls0_mem hr.1)) hkl).1
        show atI (r.map (nmV W)) (-1) = _
        rw [atI_m1, List.getLast?_map, ls0_get hr.1]
        rfl
      have c3 := and_eq c1 c2
      unfold lrIn
      cases h : (!decide (k ∈ r) && P (ls0 r) k) with
      | true =>
        rw [h] at c3
        refine seq1 ?_
        rw [sif_t c3]
        refine seq1 ?_
        have et : fTupF (lStar (evVar 4) (lCons (evVar 5) lNil)) (lnE W rows p A (some (rowT W r)) (some (nmV W k))) = some (.ok (rowT W (r ++ [k]))) := by
          rw [tupFE' (starT (xs := r.map (nmV W)) (ds := [nmV W k]) rfl (cons_eq rfl rfl)) (by simp; omega)]
          unfold rowT
          rw [List.map_append]
          rfl
        rw [app_eq (ds := A.map (rowT W)) rfl et (by rw [List.length_map]; omega)]
        simp [lnE]
      | false =>
        rw [h] at c3
        refine seq1 ?_
        rw [sif_nx c3 rfl]
        simp [lnE]
    · rw [← hA, List.filter_append, List.map_append, List.append_assoc]
      congr 1
      cases h : (!decide (k ∈ r) && P (ls0 r) k) with
      | true => simp [h]
      | false => simp [h])
  exact ⟨o5', e⟩
theorem longer_eq {W : List Str} (nd : W.Nodup) {P : Nat → Nat → Bool} {p : D} (hp : PrOk W P p) (rows : List (List Nat)) (hr : ∀ r ∈ rows, CyRow W.length r ∧ r.length ≤ 900) (hl : rows.length * W.length ≤ 800000) (hw : W.length ≤ 100) : φ_longer_rows [.lst (rows.map (rowT W)), .tup (W.map D.str), p] = some (.ok (.lst ((exts W.length P rows).map (rowT W)))) := by
  unfold φ_longer_rows defF
  rw [show startE 6 [D.lst (rows.map (rowT W)), .tup (W.map D.str), p] = [some (.lst (rows.map (rowT W))), some (.tup (W.map D.str)), some p, none, none, none] from rfl]
  unfold g_longer_rows
  rw [seq_nx (δ' := lnE W (.lst (rows.map (rowT W))) p [] none none) rfl]
  have key : ∃ o4 o5, forGo (.nm 4) (sSeq (sFor (.nm 5) (iVal (fSl (evVar 1) (some (fBin addD (fTix (evVar 1) (lCons (fIx (evVar 4) (fC (.int 0))) lNil)) (fC (.int 1)))) none)) lrIn) sNx) (rows.map (rowT W)) (lnE W (.lst (rows.map (rowT W))) p [] none none) = some (.nx (lnE W (.lst (rows.map (rowT W))) p (exts W.length P rows) o4 o5)) := by
    obtain ⟨δ', e, o4, o5, rfl⟩ := forGo_pre (enc := rowT W) (t := .nm 4) (body := (sSeq (sFor (.nm 5) (iVal (fSl (evVar 1) (some (fBin addD (fTix (evVar 1) (lCons (fIx (evVar 4) (fC (.int 0))) lNil)) (fC (.int 1)))) none)) lrIn) sNx)) (fun dn δ => ∃ o4 o5, δ = lnE W (.lst (rows.map (rowT W))) p (exts W.length P dn) o4 o5) rows (lnE W (.lst (rows.map (rowT W))) p [] none none) ⟨none, none, rfl⟩ (by
      rintro dn r rest δ he ⟨o4, o5, rfl⟩
      obtain ⟨hr1, hr2⟩ := hr r (by rw [he]; simp)
      have hh := hr1.2.2 _ (hd0_mem hr1.1)
      have hlen : (exts W.length P dn).length + (W.length - (hd0 r + 1)) ≤ 900000 := by
        have h1 := exts_len W.length P dn
        have h2 : dn.length ≤ rows.length := by rw [he, List.length_append]; omega
        have h3 := Nat.mul_le_mul_right W.length h2
        omega
      obtain ⟨o5', ein⟩ := lr_in nd hp (rows := .lst (rows.map (rowT W))) hr1 (exts W.length P dn) (List.range' (hd0 r + 1) (W.length - (hd0 r + 1))) (fun k hk => by have := List.mem_range'_1.mp hk; omega) (by rw [List.length_range']; exact hlen) hr2 o5
      refine ⟨lnE W (.lst (rows.map (rowT W))) p (exts W.length P dn) (some (rowT W r)) o5, lnE W (.lst (rows.map (rowT W))) p (exts W.length P (dn ++ [r])) (some (rowT W r)) o5', rfl, ?_, _, _, rfl⟩
      refine seq1 ?_
      have e0 : fIx (evVar 4) (fC (.int 0)) (lnE W (.lst (rows.map (rowT W))) p (exts W.length P dn) (some (rowT W r)) o5) = some (.ok (.str (nmA W (hd0 r)))) := ix_eq (x := rowT W r) (y := .int ((0 : Nat) : Int)) rfl rfl (by
        show atI (r.map (nmV W)) ((0 : Nat) : Int) = _
        rw [atI_lit, List.getElem?_map, hd0_get hr1.1]
        rfl)
      have e1 := tix_eq (fa := evVar 1) (W := W) (δ := lnE W (.lst (rows.map (rowT W))) p (exts W.length P dn) (some (rowT W r)) o5) rfl e0 (idxS_nm nd hh)
      have e2 : fBin addD (fTix (evVar 1) (lCons (fIx (evVar 4) (fC (.int 0))) lNil)) (fC (.int 1)) (lnE W (.lst (rows.map (rowT W))) p (exts W.length P dn) (some (rowT W r)) o5) = some (.ok (.int ((hd0 r + 1 : Nat) : Int))) := bin_eq (x := .int (hd0 r : Int)) (y := .int 1) e1 rfl (by rw [add_int]; rfl)
      have e3 : fSl (evVar 1) (some (fBin addD (fTix (evVar 1) (lCons (fIx (evVar 4) (fC (.int 0))) lNil)) (fC (.int 1)))) none (lnE W (.lst (rows.map (rowT W))) p (exts W.length P dn) (some (rowT W r)) o5) = some (.ok (.tup ((List.range' (hd0 r + 1) (W.length - (hd0 r + 1))).map (nmV W)))) := by
        have : evVar 1 (lnE W (.lst (rows.map (rowT W))) p (exts W.length P dn) (some (rowT W r)) o5) = some (.ok (.tup (W.map D.str))) := rfl
        simp only [fSl, this, bnd, evP, e2, slD, cut_lo, okO]
        rw [← List.map_drop, drop_nm, List.map_map]
        rfl
      have e4 : iVal (fSl (evVar 1) (some (fBin addD (fTix (evVar 1) (lCons (fIx (evVar 4) (fC (.int 0))) lNil)) (fC (.int 1)))) none) (lnE W (.lst (rows.map (rowT W))) p (exts W.length P dn) (some (rowT W r)) o5) = some (.ok ((List.range' (hd0 r + 1) (W.length - (hd0 r + 1))).map (nmV W))) := by simp only [iVal, e3, bndI, itemsD, okL]
      unfold sFor
      rw [e4]
      show forGo _ _ _ _ = _
      rw [ein]
      congr 2
      unfold exts
      rw [List.flatMap_append]
      simp [sucs])
    exact ⟨o4, o5, e⟩
  obtain ⟨o4, o5, ek⟩ := key
  rw [seq_nx (δ' := lnE W (.lst (rows.map (rowT W))) p (exts W.length P rows) o4 o5) (by show forGo _ _ _ _ = _; exact ek)]
  rfl
end Q

set_option maxHeartbeats 4000000
namespace Q
open PySem PySem.Spec PyProof.Rows L2 Ev Z
def sgl (n : Nat) : List (List Nat) := (List.range n).map fun k => [k]
/-- rows of s + 1 places -/
def cyR (n : Nat) (P : Nat → Nat → Bool) : Nat → List (List Nat)
  | 0 => sgl n
  | s + 1 => exts n P (cyR n P s)
def cls (P : Nat → Nat → Bool) (r : List Nat) : Bool := P (ls0 r) (hd0 r)
def fnd (n : Nat) (P : Nat → Nat → Bool) : Nat → Nat → Option (List Nat)
  | 0, _ => none
  | m + 1, s => match (cyR n P s).find? (cls P) with
    | some r => some r
    | none => fnd n P m (s + 1)
theorem cyR_ok {n : Nat} {P : Nat → Nat → Bool} : ∀ s, ∀ r ∈ cyR n P s, CyRow n r ∧ r.length = s + 1
  | 0, r, h => by
    obtain ⟨k, hk, rfl⟩ := List.mem_map.mp h
    exact ⟨⟨by simp, by simp, fun j hj => by rw [List.mem_singleton.mp hj]; exact List.mem_range.mp hk⟩, rfl⟩
  | s + 1, r, h => by
    obtain ⟨q, hq, hr⟩ := List.mem_flatMap.mp h
    obtain ⟨h1, h2⟩ := cyR_ok s q hq
    obtain ⟨h3, h4⟩ := sucs_ok h1 r hr
    exact ⟨h3, by rw [h4, h2]⟩
theorem cyR_len (n : Nat) (P : Nat → Nat → Bool) : ∀ s, (cyR n P s).length ≤ n ^ (s + 1)
  | 0 => by simp [cyR, sgl]
  | s + 1 => by
    have h1 := exts_len n P (cyR n P s)
    have h2 := Nat.mul_le_mul_right n (cyR_len n P s)
    show (exts n P (cyR n P s)).length ≤ n ^ (s + 1 + 1)
    rw [Nat.pow_succ]
    omega
theorem nd_leN : ∀ {n : Nat} {l : List Nat}, l.Nodup → (∀ x ∈ l, x < n) → l.length ≤ n
  | 0, l, _, h => by
    cases l with
    | nil => exact Nat.le_refl _
    | cons a l => exact absurd (h a (List.mem_cons_self ..)) (by omega)
  | n + 1, l, nd, h => by
    have ih := nd_leN (n := n) (l := l.erase n) (nd.erase n) fun x hx => by
      have h1 := h x (List.mem_of_mem_erase hx)
      have h2 : x ≠ n := fun e => by
        rw [e] at hx
        exact nd.not_mem_erase hx
      omega
    have := List.length_erase (a := n) (l := l)
    split at this <;> omega
theorem cyR_end (n : Nat) (P : Nat → Nat → Bool) : cyR n P n = [] := by
  cases h : cyR n P n with
  | nil => rfl
  | cons r l =>
    obtain ⟨h1, h2⟩ := cyR_ok (P := P) n r (by rw [h]; exact List.mem_cons_self ..)
    have := nd_leN h1.2.1 h1.2.2
    omega
theorem cyR_nil {n : Nat} {P : Nat → Nat → Bool} {s : Nat} (h : cyR n P s = []) : ∀ m, fnd n P m s = none
  | 0 => rfl
  | m + 1 => by
    have h2 : cyR n P (s + 1) = [] := by
      show exts n P (cyR n P s) = []
      rw [h]
      rfl
    unfold fnd
    rw [h]
    exact cyR_nil h2 m
abbrev allP : Nat → Nat → Bool := fun _ _ => true
def pth (P : Nat → Nat → Bool) (r : List Nat) : Bool := (List.range (r.length - 1)).all fun k => P (r.getD k 0) (r.getD (k + 1) 0)
def full (P : Nat → Nat → Bool) (r : List Nat) : Bool := (List.range r.length).all fun k => P (r.getD k 0) (r.getD ((k + 1) % r.length) 0)
theorem full_eq {P : Nat → Nat → Bool} {r : List Nat} (h : r ≠ []) : full P r = (pth P r && cls P r) := by
  obtain ⟨m, hm⟩ : ∃ m, r.length = m + 1 := ⟨r.length - 1, by have := List.length_pos_iff.mpr h; omega⟩
  unfold full pth cls ls0 hd0
  rw [hm, List.range_succ, List.all_append]
  congr 1
  · apply Bool.eq_iff_iff.mpr
    simp only [List.all_eq_true, List.mem_range, Nat.add_sub_cancel]
    constructor
    · intro q k hk
      have := q k hk
      rwa [Nat.mod_eq_of_lt (by omega)] at this
    · intro q k hk
      rw [Nat.mod_eq_of_lt (by omega)]
      exact q k hk
  · simp [Nat.mod_self]
theorem pth_snoc {P : Nat → Nat → Bool} {r : List Nat} {k : Nat} (h : r ≠ []) : pth P (r ++ [k]) = (pth P r && P (ls0 r) k) := by
  obtain ⟨m, hm⟩ : ∃ m, r.length = m + 1 := ⟨r.length - 1, by have := List.length_pos_iff.mpr h; omega⟩
  unfold pth ls0
  rw [List.length_append, List.length_singleton, hm]
  simp only [Nat.add_sub_cancel]
  rw [List.range_succ, List.all_append]
  have e1 : ∀ i, i < m + 1 → (r ++ [k]).getD i 0 = r.getD i 0 := fun i hi => by
    simp only [List.getD_eq_getElem?_getD]
    rw [List.getElem?_append_left (by omega)]
  have e2 : (r ++ [k]).getD (m + 1) 0 = k := by
    simp only [List.getD_eq_getElem?_getD]
    rw [List.getElem?_append_right (by omega), hm]
    simp
  congr 1
  · apply Bool.eq_iff_iff.mpr
    simp only [List.all_eq_true, List.mem_range]
    constructor
    · intro q i hi
      have := q i hi
      rwa [e1 i (by omega), e1 (i + 1) (by omega)] at this
    · intro q i hi
      rw [e1 i (by omega), e1 (i + 1) (by omega)]
      exact q i hi
  · simp only [List.all_cons, List.all_nil, Bool.and_true, e1 m (Nat.lt_succ_self m), e2]
theorem sucs_pth {n : Nat} {P : Nat → Nat → Bool} {r : List Nat} (h : r ≠ []) : (sucs n allP r).filter (pth P) = if pth P r then sucs n P r else [] := by
  unfold sucs
  rw [List.filter_map, List.filter_filter]
  have e : ∀ k, (pth P ∘ fun k => r ++ [k]) k = (pth P r && P (ls0 r) k) := fun k => pth_snoc h
  cases hp : pth P r with
  | true =>
    rw [if_pos rfl]
    congr 1
    apply List.filter_congr
    intro k _
    rw [e k, hp]
    simp [allP, Bool.and_comm]
  | false =>
    rw [if_neg (by simp)]
    have : (List.range' (hd0 r + 1) (n - (hd0 r + 1))).filter (fun a => (pth P ∘ fun k => r ++ [k]) a && (!decide (a ∈ r) && allP (ls0 r) a)) = [] := by
      rw [List.filter_eq_nil_iff]
      intro k _
      rw [e k, hp]
      simp
    rw [this]
    rfl
theorem exts_pth {n : Nat} {P : Nat → Nat → Bool} : ∀ {rows : List (List Nat)}, (∀ r ∈ rows, r ≠ []) → (exts n allP rows).filter (pth P) = exts n P (rows.filter (pth P))
  | [], _ => rfl
  | r :: rows, h => by
    have ih := exts_pth (n := n) (P := P) (rows := rows) fun q hq => h q (List.mem_cons_of_mem _ hq)
    have e := sucs_pth (n := n) (P := P) (h r (List.mem_cons_self ..))
    show ((sucs n allP r) ++ (exts n allP rows)).filter (pth P) = _
    rw [List.filter_append, e, ih]
    by_cases hp : pth P r = true
    · rw [if_pos hp, List.filter_cons_of_pos hp]
      rfl
    · rw [if_neg hp, List.filter_cons_of_neg hp]
      rfl
theorem cyR_pth {n : Nat} {P : Nat → Nat → Bool} : ∀ s, (cyR n allP s).filter (pth P) = cyR n P s
  | 0 => by
    show (sgl n).filter (pth P) = sgl n
    rw [List.filter_eq_self]
    intro r hr
    obtain ⟨k, _, rfl⟩ := List.mem_map.mp hr
    rfl
  | s + 1 => by
    show (exts n allP (cyR n allP s)).filter (pth P) = exts n P (cyR n P s)
    rw [exts_pth (fun r hr => (cyR_ok s r hr).1.1), cyR_pth s]
theorem find_pth {n : Nat} {P : Nat → Nat → Bool} (s : Nat) : (cyR n allP s).find? (full P) = (cyR n P s).find? (cls P) := by
  rw [← cyR_pth (P := P) s]
  have gen : ∀ l : List (List Nat), (∀ r ∈ l, r ≠ []) → l.find? (full P) = (l.filter (pth P)).find? (cls P) := by
    intro l
    induction l with
    | nil => intro _; rfl
    | cons r l ih =>
      intro h
      have e := full_eq (P := P) (h r (List.mem_cons_self ..))
      have ih := ih fun q hq => h q (List.mem_cons_of_mem _ hq)
      rw [List.find?_cons, e, ih]
      cases hp : pth P r with
      | true =>
        rw [List.filter_cons_of_pos hp, List.find?_cons]
        cases cls P r <;> rfl
      | false =>
        rw [List.filter_cons_of_neg (by rw [hp]; simp)]
        rfl
  exact gen _ fun r hr => (cyR_ok s r hr).1.1
def cyD (W : List Str) (o : Option (List Nat)) : D := match o with
  | some r => rowT W r
  | none => .tup []
/-- the first of a list that passes, by a loop that returns it -/
theorem find_split {α : Type} {p : α → Bool} : ∀ {l : List α}, (l.find? p = none ∧ ∀ x ∈ l, p x = false) ∨ ∃ a x b, l = a ++ x :: b ∧ l.find? p = some x ∧ p x = true ∧ ∀ y ∈ a, p y = false
  | [] => .inl ⟨rfl, fun _ h => by cases h⟩
  | x :: l => by
    cases hx : p x with
    | true => exact .inr ⟨[], x, l, rfl, by rw [List.find?_cons, hx], hx, fun _ h => by cases h⟩
    | false =>
      rcases find_split (p := p) (l := l) with ⟨h1, h2⟩ | ⟨a, y, b, h1, h2, h3, h4⟩
      · exact .inl ⟨by rw [List.find?_cons, hx]; exact h1, fun z hz => by
          rcases List.mem_cons.mp hz with rfl | hz
          · exact hx
          · exact h2 z hz⟩
      · exact .inr ⟨x :: a, y, b, by rw [h1]; rfl, by rw [List.find?_cons, hx]; exact h2, h3, fun z hz => by
          rcases List.mem_cons.mp hz with rfl | hz
          · exact hx
          · exact h4 z hz⟩
def slE (W : List Str) (p : D) (rows : List (List Nat)) (o3 : Option D) : Ev.Env := [some (.tup (W.map D.str)), some p, some (.lst (rows.map (rowT W))), o3, none]
def slF : So := (sSeq (sIf (fCmp (inN false) (fTup (lCons (fIx (evVar 3) (fC (.int (-1)))) (lCons (fIx (evVar 3) (fC (.int 0))) lNil))) (evVar 1)) (sSeq (sRet (evVar 3))
  sNx) sNx)
  sNx)
def slB : So := (sSeq (sFor (.nm 3) (iVal (evVar 2)) slF)
  (sSeq (sSet 2 (fCall φ_longer_rows (lCons (evVar 2) (lCons (evVar 0) (lCons (evVar 1) lNil)))))
  sNx))
theorem slF_eq {W : List Str} {P : Nat → Nat → Bool} {p : D} (hp : PrOk W P p) {rows : List (List Nat)} {r : List Nat} (hr : CyRow W.length r) : slF (slE W p rows (some (rowT W r))) = if cls P r then some (.ret (rowT W r) (slE W p rows (some (rowT W r)))) else some (.nx (slE W p rows (some (rowT W r)))) := by
  have c : fCmp (inN false) (fTup (lCons (fIx (evVar 3) (fC (.int (-1)))) (lCons (fIx (evVar 3) (fC (.int 0))) lNil))) (evVar 1) (slE W p rows (some (rowT W r))) = some (.ok (.bl (cls P r))) := by
    refine cmp_eq (x := .tup [nmV W (ls0 r), nmV W (hd0 r)]) (y := p) (tupE' (cons_eq (ix_eq (x := rowT W r) (y := .int (-1)) rfl rfl ?_) (cons_eq (ix_eq (x := rowT W r) (y := .int ((0 : Nat) : Int)) rfl rfl ?_) rfl))) rfl (hp _ _ (hr.2.2 _ (ls0_mem hr.1)) (hr.2.2 _ (hd0_mem hr.1))).1
    · show atI (r.map (nmV W)) (-1) = _
      rw [atI_m1, List.getLast?_map, ls0_get hr.1]
      rfl
    · show atI (r.map (nmV W)) ((0 : Nat) : Int) = _
      rw [atI_lit, List.getElem?_map, hd0_get hr.1]
      rfl
  unfold slF
  cases h : cls P r with
  | true =>
    rw [h] at c
    rw [if_pos rfl]
    exact seq_ret (by rw [sif_t c]; exact seq_ret rfl)
  | false =>
    rw [h] at c
    rw [if_neg (by simp)]
    exact seq1 (sif_nx c rfl)
theorem sl_loop {W : List Str} (nd : W.Nodup) (hw : W.length ≤ 6) {P : Nat → Nat → Bool} {p : D} (hp : PrOk W P p) : ∀ (m s f : Nat) (o3 : Option D), s + m = W.length → m < f →
    (∃ r δ, fnd W.length P m s = some r ∧ whGo (fCmp (op pGt) (fBi lenD (lCons (evVar 2) lNil)) (fC (.int 0))) slB f (slE W p (cyR W.length P s) o3) = some (.ret (rowT W r) δ)) ∨
    (fnd W.length P m s = none ∧ ∃ rows o3', whGo (fCmp (op pGt) (fBi lenD (lCons (evVar 2) lNil)) (fC (.int 0))) slB f (slE W p (cyR W.length P s) o3) = some (.nx (slE W p rows o3')))
  | m, s, 0, o3, _, h => absurd h (by omega)
  | m, s, f + 1, o3, hs, hf => by
    have cnd : fCmp (op pGt) (fBi lenD (lCons (evVar 2) lNil)) (fC (.int 0)) (slE W p (cyR W.length P s) o3) = some (.ok (.bl (decide (0 < (cyR W.length P s).length)))) := by
      refine cmp_eq (x := .int ((cyR W.length P s).length : Int)) (y := .int 0) (bi1_eq (x := .lst ((cyR W.length P s).map (rowT W))) rfl ?_) rfl ?_
      · show some (D.int (((cyR W.length P s).map (rowT W)).length : Int)) = _
        rw [List.length_map]
      · show some (decide (((cyR W.length P s).length : Int) > 0)) = _
        congr 1
        apply decide_eq_decide.mpr
        omega
    cases hrw : cyR W.length P s with
    | nil =>
      right
      refine ⟨cyR_nil hrw m, [], o3, ?_⟩
      rw [hrw] at cnd
      simp only [whGo, cnd, bndSB]
      rfl
    | cons r0 l0 =>
      have hpos : 0 < (cyR W.length P s).length := by rw [hrw]; simp
      rw [decide_eq_true hpos] at cnd
      rw [← hrw]
      obtain ⟨m, rfl⟩ : ∃ k, m = k + 1 := by
        cases m with
        | zero =>
          have e : s = W.length := by omega
          rw [e, cyR_end] at hrw
          cases hrw
        | succ k => exact ⟨k, rfl⟩
      have ok := cyR_ok (n := W.length) (P := P) s
      rcases find_split (p := cls P) (l := cyR W.length P s) with ⟨h1, h2⟩ | ⟨a, x, b, h1, h2, h3, h4⟩
      · have hlen : (cyR W.length P s).length * W.length ≤ 800000 := by
          have k1 := cyR_len W.length P s
          have k2 : W.length ^ (s + 1) ≤ 6 ^ 6 := Nat.le_trans (Nat.pow_le_pow_left hw _) (Nat.pow_le_pow_right (by omega) (by omega))
          have k3 := Nat.mul_le_mul (Nat.le_trans k1 k2) hw
          have k4 : (6 : Nat) ^ 6 * 6 ≤ 800000 := by decide
          omega
        obtain ⟨δ', ef, o3', rfl⟩ := forGo_pre (enc := rowT W) (t := .nm 3) (body := slF) (fun dn δ => ∃ o, δ = slE W p (cyR W.length P s) o) (cyR W.length P s) (slE W p (cyR W.length P s) o3) ⟨o3, rfl⟩ (by
          rintro dn r rest δ he ⟨o, rfl⟩
          have hm : r ∈ cyR W.length P s := by rw [he]; simp
          refine ⟨slE W p (cyR W.length P s) (some (rowT W r)), slE W p (cyR W.length P s) (some (rowT W r)), rfl, ?_, _, rfl⟩
          rw [slF_eq hp (ok r hm).1, if_neg (by rw [h2 r hm]; simp)])
        have el := longer_eq nd hp (cyR W.length P s) (fun r hr => ⟨(ok r hr).1, by rw [(ok r hr).2]; omega⟩) hlen (by omega)
        have body : slB (slE W p (cyR W.length P s) o3) = some (.nx (slE W p (cyR W.length P (s + 1)) o3')) := by
          unfold slB
          rw [seq_nx (δ' := slE W p (cyR W.length P s) o3') (by show forGo _ _ _ _ = _; exact ef)]
          refine seq1 ?_
          rw [set_eq (call_eq (cons_eq (d := .lst ((cyR W.length P s).map (rowT W))) rfl (cons_eq (d := .tup (W.map D.str)) rfl (cons_eq (d := p) rfl rfl))) el)]
          rfl
        have ih := sl_loop nd hw hp m (s + 1) f o3' (by omega) (by omega)
        have efn : fnd W.length P (m + 1) s = fnd W.length P m (s + 1) := by
          show (match (cyR W.length P s).find? (cls P) with | some r => some r | none => fnd W.length P m (s + 1)) = _
          rw [h1]
        rw [efn]
        have ew : whGo (fCmp (op pGt) (fBi lenD (lCons (evVar 2) lNil)) (fC (.int 0))) slB (f + 1) (slE W p (cyR W.length P s) o3) = whGo (fCmp (op pGt) (fBi lenD (lCons (evVar 2) lNil)) (fC (.int 0))) slB f (slE W p (cyR W.length P (s + 1)) o3') := by
          simp only [whGo, cnd, bndSB, if_true, body]
        rw [ew]
        exact ih
      · left
        obtain ⟨δ', ef⟩ := forGo_ret (enc := rowT W) (t := .nm 3) (body := slF) (fun δ => ∃ o, δ = slE W p (cyR W.length P s) o) x b (rowT W x) a (slE W p (cyR W.length P s) o3) ⟨o3, rfl⟩ (by
          rintro y hy δ ⟨o, rfl⟩
          have hm : y ∈ cyR W.length P s := by rw [h1]; simp [hy]
          refine ⟨slE W p (cyR W.length P s) (some (rowT W y)), slE W p (cyR W.length P s) (some (rowT W y)), rfl, ?_, _, rfl⟩
          rw [slF_eq hp (ok y hm).1, if_neg (by rw [h4 y hy]; simp)]) (by
          rintro δ ⟨o, rfl⟩
          have hm : x ∈ cyR W.length P s := by rw [h1]; simp
          refine ⟨slE W p (cyR W.length P s) (some (rowT W x)), slE W p (cyR W.length P s) (some (rowT W x)), rfl, ?_⟩
          rw [slF_eq hp (ok x hm).1, if_pos h3])
        refine ⟨x, δ', ?_, ?_⟩
        · show (match (cyR W.length P s).find? (cls P) with | some r => some r | none => fnd W.length P m (s + 1)) = _
          rw [h2]
        · have body : slB (slE W p (cyR W.length P s) o3) = some (.ret (rowT W x) δ') := by
            unfold slB
            refine seq_ret ?_
            show forGo _ _ ((cyR W.length P s).map (rowT W)) _ = _
            rw [h1] at ef ⊢
            exact ef
          simp only [whGo, cnd, bndSB, if_true, body]
theorem slc_eq {W : List Str} (nd : W.Nodup) (hw : W.length ≤ 6) {P : Nat → Nat → Bool} {p : D} (hp : PrOk W P p) : φ_shortest_lock_cycle [.tup (W.map D.str), p] = some (.ok (cyD W (fnd W.length P (W.length - 1) 1))) := by
  unfold φ_shortest_lock_cycle defF
  rw [show startE 5 [D.tup (W.map D.str), p] = [some (.tup (W.map D.str)), some p, none, none, none] from rfl]
  unfold g_shortest_lock_cycle
  have es : lcF (.nm 4) none (fTup (lCons (evVar 4) lNil)) (iVal (evVar 0)) [4] [some (.tup (W.map D.str)), some p, none, none, none] = some (.ok (.lst ((sgl W.length).map (rowT W)))) := by
    have h := lc_map (enc := D.str) (fun x : Str => D.tup [.str x]) W (t := .nm 4) (fe := fTup (lCons (evVar 4) lNil)) (fi := iVal (evVar 0)) (own := [4]) (δ := [some (.tup (W.map D.str)), some p, none, none, none]) rfl (by omega) fun x _ => ⟨_, rfl, rfl⟩
    rw [h]
    congr 3
    unfold sgl rowT nmV
    rw [List.map_map]
    have := drop_nm W 0
    rw [List.drop_zero, Nat.sub_zero, ← List.range_eq_range'] at this
    conv => lhs; rw [this]
    rw [List.map_map]
    rfl
  have el := longer_eq nd hp (sgl W.length) (fun r hr => ⟨(cyR_ok (P := P) 0 r hr).1, by rw [(cyR_ok (P := P) 0 r hr).2]; omega⟩) (by
    have : (sgl W.length).length = W.length := by simp [sgl]
    rw [this]
    have := Nat.mul_le_mul hw hw
    omega) (by omega)
  rw [seq_nx (δ' := slE W p (cyR W.length P 1) none) (set_eq (call_eq (cons_eq es (cons_eq (d := .tup (W.map D.str)) rfl (cons_eq (d := p) rfl rfl))) el))]
  by_cases h0 : W.length = 0
  · have e1 : cyR W.length P 1 = [] := by rw [h0]; rfl
    rw [seq_nx (δ' := slE W p [] none) (by
      rw [e1]
      rfl)]
    rw [ret_eq (d := .tup []) rfl]
    rw [h0]
    rfl
  · rcases sl_loop nd hw hp (W.length - 1) 1 40 none (by omega) (by omega) with ⟨r, δ, h1, h2⟩ | ⟨h1, rows, o3, h2⟩
    · rw [seq_ret (d := rowT W r) (δ' := δ) (by show whGo _ _ _ _ = _; exact h2), h1]
      rfl
    · rw [seq_nx (δ' := slE W p rows o3) (by show whGo _ _ _ _ = _; exact h2), h1]
      rw [ret_eq (d := .tup []) rfl]
      rfl
end Q

set_option maxHeartbeats 4000000
namespace Q
open PySem PySem.Spec PyProof.Rows L2 Ev Z
def iD (k : Nat) : D := .int (k : Int)
theorem rngG (a n : Nat) (ha : a ≤ 100000) (hn : n ≤ 100000) : rngF2 (.int (a : Int)) (.int (n : Int)) = some ((List.range' a (n - a)).map iD) := by
  show rngOk _ _ = _
  unfold rngOk
  rw [if_pos (by simp; omega)]
  unfold rngD
  rw [show ((n : Int) - (a : Int)).toNat = n - a by omega, List.range'_eq_map_range, List.map_map]
  congr 1
theorem rng1G {fa : EF} {δ : Ev.Env} {n : Nat} (ha : fa δ = some (.ok (.int (n : Int)))) (h : n ≤ 100000) : Ev.iRng1 fa δ = some (.ok ((List.range n).map iD)) := by
  have : rngF1 (.int (n : Int)) = some ((List.range n).map iD) := by
    show rngOk 0 _ = _
    unfold rngOk
    rw [if_pos (by simp; omega)]
    unfold rngD
    rw [show ((n : Int) - 0).toNat = n by omega]
    congr 1
    exact List.map_congr_left fun i _ => by show D.int _ = D.int _; congr 1; omega
  simp only [Ev.iRng1, ha, bndI, this, okL]
theorem rng2G {fa fb : EF} {δ : Ev.Env} {a n : Nat} (ha : fa δ = some (.ok (.int (a : Int)))) (hb : fb δ = some (.ok (.int (n : Int)))) (h1 : a ≤ 100000) (h2 : n ≤ 100000) : Ev.iRng2 fa fb δ = some (.ok ((List.range' a (n - a)).map iD)) := by
  simp only [Ev.iRng2, ha, hb, bndI, rngG a n h1 h2, okL]
theorem okDs_iD (n : Nat) : ∀ l : List Nat, okDs n (l.map iD) = true
  | [] => by cases n <;> rfl
  | x :: l => by rw [List.map_cons]; unfold okDs; rw [okDs_iD n l]; cases n <;> rfl
theorem any_iD (k : Nat) : ∀ l : List Nat, ((l.map iD).any fun z => eqB z (iD k)) = decide (k ∈ l)
  | [] => rfl
  | y :: l => by
    rw [List.map_cons, List.any_cons, any_iD k l]
    have : eqB (iD y) (iD k) = decide ((y : Int) = (k : Int)) := rfl
    rw [this]
    by_cases h : y = k
    · subst h; simp
    · have h2 : ¬ k = y := fun e => h e.symm
      have h3 : ¬ (y : Int) = (k : Int) := by omega
      simp [h2, h3]
theorem nin_iD (k : Nat) (l : List Nat) : inN true (iD k) (.lst (l.map iD)) = some (!decide (k ∈ l)) := by
  have : inN true (iD k) (.lst (l.map iD)) = (if okD 59 (iD k) && okDs 59 (l.map iD) then some ((l.map iD).any fun z => eqB z (iD k)) else none).map (!·) := rfl
  rw [this, okDs_iD, any_iD]
  rfl
def rwI (r : List Nat) : D := .lst (r.map iD)
def dE (W : List Str) (p : D) (rows : List (List Nat)) (o3 : Option D) (o4 : Option D) (o5 o6 o7 : Option D) : Ev.Env := [some (stL W), some p, some (.lst (rows.map rwI)), o3, o4, o5, o6, o7, none]
def dIn : So := (sSeq (sIf (fCmp (inN true) (evVar 6) (evVar 5)) (sSeq (sApp 4 (fBin addD (evVar 5) (fLst (lCons (evVar 6) lNil))))
  sNx) sNx)
  sNx)
def dEx : So := (sSeq (sFor (.nm 6) (iRng2 (fBin addD (fIx (evVar 5) (fC (.int 0))) (fC (.int 1))) (fBi lenD (lCons (evVar 0) lNil))) dIn)
  sNx)
theorem d_in {W : List Str} {p : D} {rows : List (List Nat)} {o3 o7 : Option D} {r : List Nat} (acc : List (List Nat)) (ks : List Nat) (hl : acc.length + ks.length ≤ 900000) (hrl : r.length ≤ 900) (o6 : Option D) :
    ∃ o6', forGo (.nm 6) dIn (ks.map iD) (dE W p rows o3 (some (.lst (acc.map rwI))) (some (rwI r)) o6 o7) = some (.nx (dE W p rows o3 (some (.lst ((acc ++ (ks.filter fun k => !decide (k ∈ r) && allP (ls0 r) k).map fun k => r ++ [k]).map rwI))) (some (rwI r)) o6' o7)) := by
  obtain ⟨δ', e, o6', rfl⟩ := forGo_pre (enc := iD) (t := .nm 6) (body := dIn) (fun dn δ => ∃ o6, δ = dE W p rows o3 (some (.lst ((acc ++ (dn.filter fun k => !decide (k ∈ r) && allP (ls0 r) k).map fun k => r ++ [k]).map rwI))) (some (rwI r)) o6 o7) ks (dE W p rows o3 (some (.lst (acc.map rwI))) (some (rwI r)) o6 o7) ⟨o6, by simp⟩ (by
    rintro dn k rest δ he ⟨o6, rfl⟩
    generalize hA : acc ++ (dn.filter fun k => !decide (k ∈ r) && allP (ls0 r) k).map (fun k => r ++ [k]) = A
    have hAl : A.length ≤ 900000 := by
      rw [← hA, List.length_append, List.length_map]
      have h1 := List.length_filter_le (fun k => !decide (k ∈ r) && allP (ls0 r) k) dn
      have h2 := congrArg List.length he
      rw [List.length_append, List.length_cons] at h2
      omega
    refine ⟨dE W p rows o3 (some (.lst (A.map rwI))) (some (rwI r)) (some (iD k)) o7, dE W p rows o3 (some (.lst ((A ++ (if (!decide (k ∈ r) && allP (ls0 r) k) = true then [r ++ [k]] else [])).map rwI))) (some (rwI r)) (some (iD k)) o7, rfl, ?_, some (iD k), ?_⟩
    · have c1 : fCmp (inN true) (evVar 6) (evVar 5) (dE W p rows o3 (some (.lst (A.map rwI))) (some (rwI r)) (some (iD k)) o7) = some (.ok (.bl (!decide (k ∈ r)))) := cmp_eq (x := iD k) (y := rwI r) rfl rfl (nin_iD k r)
      unfold dIn
      refine seq1 ?_
      by_cases h : k ∈ r
      · rw [decide_eq_true h] at c1
        rw [sif_nx c1 rfl, if_neg (by simp [h]), List.append_nil]
      · rw [decide_eq_false h] at c1
        rw [sif_t c1, if_pos (by simp [h, allP])]
        refine seq1 ?_
        have ea : fBin addD (evVar 5) (fLst (lCons (evVar 6) lNil)) (dE W p rows o3 (some (.lst (A.map rwI))) (some (rwI r)) (some (iD k)) o7) = some (.ok (rwI (r ++ [k]))) := bin_eq (x := rwI r) (y := .lst [iD k]) rfl rfl (by
          show (if (r.map iD).length + 1 ≤ sizeLine then _ else _) = _
          rw [if_pos (le_sL (by rw [List.length_map]; omega))]
          unfold rwI
          rw [List.map_append]
          rfl)
        rw [app_eq (ds := A.map rwI) rfl ea (by rw [List.length_map]; omega), List.map_append]
        rfl
    · have q : A ++ (if (!decide (k ∈ r) && allP (ls0 r) k) = true then [r ++ [k]] else []) = acc ++ ((dn ++ [k]).filter fun k => !decide (k ∈ r) && allP (ls0 r) k).map (fun k => r ++ [k]) := by
        rw [← hA, List.filter_append, List.map_append, List.append_assoc]
        congr 1
        congr 1
        cases h : (!decide (k ∈ r) && allP (ls0 r) k) with
        | true => simp only [List.filter_cons, h, if_true, List.filter_nil, List.map_cons, List.map_nil]
        | false => simp only [List.filter_cons, h, if_false, List.filter_nil, List.map_nil, Bool.false_eq_true]
      rw [q])
  exact ⟨o6', e⟩
theorem d_ex {W : List Str} {p : D} {o3 o7 : Option D} (rows : List (List Nat)) (hr : ∀ r ∈ rows, CyRow W.length r ∧ r.length ≤ 900) (hl : rows.length * W.length ≤ 800000) (hw : W.length ≤ 100) (o5 o6 : Option D) : ∃ o5' o6', forGo (.nm 5) dEx (rows.map rwI) (dE W p rows o3 (some (.lst [])) o5 o6 o7) = some (.nx (dE W p rows o3 (some (.lst ((exts W.length allP rows).map rwI))) o5' o6' o7)) := by
  obtain ⟨δ', e, o5', o6', rfl⟩ := forGo_pre (enc := rwI) (t := .nm 5) (body := dEx) (fun dn δ => ∃ o5 o6, δ = dE W p rows o3 (some (.lst ((exts W.length allP dn).map rwI))) o5 o6 o7) rows (dE W p rows o3 (some (.lst [])) o5 o6 o7) ⟨o5, o6, rfl⟩ (by
    rintro dn r rest δ he ⟨o5, o6, rfl⟩
    obtain ⟨hr1, hr2⟩ := hr r (by rw [he]; simp)
    have hh := hr1.2.2 _ (hd0_mem hr1.1)
    have hlen : (exts W.length allP dn).length + (W.length - (hd0 r + 1)) ≤ 900000 := by
      have h1 := exts_len W.length allP dn
      have h2 : dn.length ≤ rows.length := by rw [he, List.length_append]; omega
      have h3 := Nat.mul_le_mul_right W.length h2
      omega
    obtain ⟨o6', ein⟩ := d_in (W := W) (p := p) (rows := rows) (o3 := o3) (o7 := o7) (r := r) (exts W.length allP dn) (List.range' (hd0 r + 1) (W.length - (hd0 r + 1))) (by rw [List.length_range']; exact hlen) hr2 o6
    refine ⟨dE W p rows o3 (some (.lst ((exts W.length allP dn).map rwI))) (some (rwI r)) o6 o7, dE W p rows o3 (some (.lst ((exts W.length allP (dn ++ [r])).map rwI))) (some (rwI r)) o6' o7, rfl, ?_, _, _, rfl⟩
    unfold dEx
    refine seq1 ?_
    have e0 : fIx (evVar 5) (fC (.int 0)) (dE W p rows o3 (some (.lst ((exts W.length allP dn).map rwI))) (some (rwI r)) o6 o7) = some (.ok (iD (hd0 r))) := ix_eq (x := rwI r) (y := .int ((0 : Nat) : Int)) rfl rfl (by
      show atI (r.map iD) ((0 : Nat) : Int) = _
      rw [atI_lit, List.getElem?_map, hd0_get hr1.1]
      rfl)
    have e1 : fBin addD (fIx (evVar 5) (fC (.int 0))) (fC (.int 1)) (dE W p rows o3 (some (.lst ((exts W.length allP dn).map rwI))) (some (rwI r)) o6 o7) = some (.ok (.int ((hd0 r + 1 : Nat) : Int))) := bin_eq (x := .int (hd0 r : Int)) (y := .int 1) e0 rfl (by rw [add_int]; rfl)
    have e2 : fBi lenD (lCons (evVar 0) lNil) (dE W p rows o3 (some (.lst ((exts W.length allP dn).map rwI))) (some (rwI r)) o6 o7) = some (.ok (.int (W.length : Int))) := bi1_eq (x := stL W) rfl (by
      show some (D.int ((W.map D.str).length : Int)) = _
      rw [List.length_map])
    unfold sFor
    rw [rng2G e1 e2 (by omega) (by omega)]
    show forGo _ _ _ _ = _
    rw [ein]
    congr 2
    unfold exts
    rw [List.flatMap_append]
    simp [sucs])
  exact ⟨o5', o6', e⟩
def dTs : So := (sSeq (sSet 7 (lcF (.nm 6) none (fTup (lCons (fIx (evVar 0) (fIx (evVar 5) (evVar 6))) (lCons (fIx (evVar 0) (fIx (evVar 5) (fBin modD (fBi intD (lCons (fBin addD (evVar 6) (fC (.int 1))) lNil)) (evVar 3)))) lNil))) (iRng1 (evVar 3)) [6]))
  (sSeq (sIf (fCmp (eqD) (fBi lenD (lCons (lcF (.nm 8) (some (fCmp (inN true) (evVar 8) (evVar 1))) (evVar 8) (iVal (evVar 7)) [8]) lNil)) (fC (.int 0))) (sSeq (sRet (fBi tupD (lCons (lcF (.nm 6) none (fIx (evVar 0) (evVar 6)) (iVal (evVar 5)) [6]) lNil)))
  sNx) sNx)
  sNx))
def stpQ (r : List Nat) (k : Nat) : Nat × Nat := (r.getD k 0, r.getD ((k + 1) % r.length) 0)
def stpQD (W : List Str) (q : Nat × Nat) : D := .tup [nmV W q.1, nmV W q.2]
theorem getD_get {r : List Nat} {k : Nat} (h : k < r.length) : r[k]? = some (r.getD k 0) := by
  rw [List.getD_eq_getElem?_getD, List.getElem?_eq_getElem h]
  rfl
theorem nm_ix {fa : EF} {δ : Ev.Env} {W : List Str} {k : Nat} (h0 : δ[0]? = some (some (stL W))) (ha : fa δ = some (.ok (iD k))) (hk : k < W.length) : fIx (evVar 0) fa δ = some (.ok (nmV W k)) := by
  refine ix_eq (x := stL W) (y := iD k) (by unfold evVar; rw [h0]) ha ?_
  show atI (W.map D.str) (k : Int) = _
  rw [atI_lit, List.getElem?_map, nmA_get hk]
  rfl
theorem d_ts {W : List Str} {P : Nat → Nat → Bool} {p : D} (hp : PrOk W P p) {rows : List (List Nat)} {r : List Nat} (hr : CyRow W.length r) (hrl : r.length ≤ 900) (o4 o6 o7 : Option D) :
    (full P r = true ∧ ∃ δ, dTs (dE W p rows (some (iD r.length)) o4 (some (rwI r)) o6 o7) = some (.ret (rowT W r) δ)) ∨
    (full P r = false ∧ ∃ o7', dTs (dE W p rows (some (iD r.length)) o4 (some (rwI r)) o6 o7) = some (.nx (dE W p rows (some (iD r.length)) o4 (some (rwI r)) o6 o7'))) := by
  have hpos : 0 < r.length := List.length_pos_iff.mpr hr.1
  have lt : ∀ i, i < r.length → r.getD i 0 < W.length := fun i hi => hr.2.2 _ (List.mem_of_getElem? (getD_get hi))
  have es : lcF (.nm 6) none (fTup (lCons (fIx (evVar 0) (fIx (evVar 5) (evVar 6))) (lCons (fIx (evVar 0) (fIx (evVar 5) (fBin modD (fBi intD (lCons (fBin addD (evVar 6) (fC (.int 1))) lNil)) (evVar 3)))) lNil))) (iRng1 (evVar 3)) [6] (dE W p rows (some (iD r.length)) o4 (some (rwI r)) o6 o7) = some (.ok (.lst ((List.range r.length).map fun k => stpQD W (stpQ r k)))) := by
    refine lc_map (enc := iD) (fun k => stpQD W (stpQ r k)) (List.range r.length) (rng1G (n := r.length) rfl (by omega)) (by rw [List.length_range]; omega) fun k hk => ?_
    have hk := List.mem_range.mp hk
    refine ⟨dE W p rows (some (iD r.length)) o4 (some (rwI r)) (some (iD k)) o7, rfl, ?_⟩
    have i1 : fIx (evVar 5) (evVar 6) (dE W p rows (some (iD r.length)) o4 (some (rwI r)) (some (iD k)) o7) = some (.ok (iD (r.getD k 0))) := ix_eq (x := rwI r) (y := .int (k : Int)) rfl rfl (by
      show atI (r.map iD) (k : Int) = _
      rw [atI_lit, List.getElem?_map, getD_get hk]
      rfl)
    have hk2 : (k + 1) % r.length < r.length := Nat.mod_lt _ hpos
    have i2 : fBin modD (fBi intD (lCons (fBin addD (evVar 6) (fC (.int 1))) lNil)) (evVar 3) (dE W p rows (some (iD r.length)) o4 (some (rwI r)) (some (iD k)) o7) = some (.ok (iD ((k + 1) % r.length))) := by
      refine bin_eq (x := .int ((k + 1 : Nat) : Int)) (y := .int (r.length : Int)) (bi1_eq (x := .int ((k + 1 : Nat) : Int)) (bin_eq (x := .int (k : Int)) (y := .int 1) rfl rfl (by rw [add_int]; rfl)) rfl) rfl ?_
      rw [mod_int _ (by omega)]
      rfl
    have i3 : fIx (evVar 5) (fBin modD (fBi intD (lCons (fBin addD (evVar 6) (fC (.int 1))) lNil)) (evVar 3)) (dE W p rows (some (iD r.length)) o4 (some (rwI r)) (some (iD k)) o7) = some (.ok (iD (r.getD ((k + 1) % r.length) 0))) := ix_eq (x := rwI r) (y := iD ((k + 1) % r.length)) rfl i2 (by
      show atI (r.map iD) (((k + 1) % r.length : Nat) : Int) = _
      rw [atI_lit, List.getElem?_map, getD_get hk2]
      rfl)
    exact tupE' (cons_eq (nm_ix rfl i1 (lt k hk)) (cons_eq (nm_ix rfl i3 (lt _ hk2)) rfl))
  have ef : lcF (.nm 8) (some (fCmp (inN true) (evVar 8) (evVar 1))) (evVar 8) (iVal (evVar 7)) [8] (dE W p rows (some (iD r.length)) o4 (some (rwI r)) o6 (some (.lst ((List.range r.length).map fun k => stpQD W (stpQ r k))))) = some (.ok (.lst (((List.range r.length).filter fun k => !P (stpQ r k).1 (stpQ r k).2).map fun k => stpQD W (stpQ r k)))) := by
    refine lc_filt (enc := fun k => stpQD W (stpQ r k)) (fun k => !P (stpQ r k).1 (stpQ r k).2) (fun k => stpQD W (stpQ r k)) (List.range r.length) rfl (by rw [List.length_range]; omega) fun k hk => ?_
    have hk := List.mem_range.mp hk
    have hk2 : (k + 1) % r.length < r.length := Nat.mod_lt _ hpos
    exact ⟨[some (stL W), some p, some (.lst (rows.map rwI)), some (iD r.length), o4, some (rwI r), o6, some (.lst ((List.range r.length).map fun k => stpQD W (stpQ r k))), some (stpQD W (stpQ r k))], rfl, cmp_eq (x := stpQD W (stpQ r k)) (y := p) rfl rfl (hp _ _ (lt k hk) (lt _ hk2)).2, rfl⟩
  have c : fCmp (eqD) (fBi lenD (lCons (lcF (.nm 8) (some (fCmp (inN true) (evVar 8) (evVar 1))) (evVar 8) (iVal (evVar 7)) [8]) lNil)) (fC (.int 0)) (dE W p rows (some (iD r.length)) o4 (some (rwI r)) o6 (some (.lst ((List.range r.length).map fun k => stpQD W (stpQ r k))))) = some (.ok (.bl (full P r))) := by
    refine cmp_eq (x := .int ((((List.range r.length).filter fun k => !P (stpQ r k).1 (stpQ r k).2).length : Nat) : Int)) (y := .int 0) (bi1_eq ef ?_) rfl ?_
    · show some (D.int ((List.map _ _).length : Int)) = _
      rw [List.length_map]
    · rw [eq_int]
      congr 1
      unfold full
      apply Bool.eq_iff_iff.mpr
      rw [decide_eq_true_eq, List.all_eq_true]
      constructor
      · intro h k hk
        have h0 : ((List.range r.length).filter fun k => !P (stpQ r k).1 (stpQ r k).2) = [] := List.length_eq_zero_iff.mp (by omega)
        have := (List.filter_eq_nil_iff.mp h0) k hk
        simpa [stpQ] using this
      · intro h
        have h0 : ((List.range r.length).filter fun k => !P (stpQ r k).1 (stpQ r k).2) = [] := by
          rw [List.filter_eq_nil_iff]
          intro k hk
          have := h k hk
          simpa [stpQ] using this
        rw [h0]
        rfl
  have e7 : sSet 7 (lcF (.nm 6) none (fTup (lCons (fIx (evVar 0) (fIx (evVar 5) (evVar 6))) (lCons (fIx (evVar 0) (fIx (evVar 5) (fBin modD (fBi intD (lCons (fBin addD (evVar 6) (fC (.int 1))) lNil)) (evVar 3)))) lNil))) (iRng1 (evVar 3)) [6]) (dE W p rows (some (iD r.length)) o4 (some (rwI r)) o6 o7) = some (.nx (dE W p rows (some (iD r.length)) o4 (some (rwI r)) o6 (some (.lst ((List.range r.length).map fun k => stpQD W (stpQ r k)))))) := by
    rw [set_eq es]
    rfl
  cases h : full P r with
  | true =>
    rw [h] at c
    left
    refine ⟨rfl, dE W p rows (some (iD r.length)) o4 (some (rwI r)) o6 (some (.lst ((List.range r.length).map fun k => stpQD W (stpQ r k)))), ?_⟩
    unfold dTs
    rw [seq_nx e7]
    refine seq_ret ?_
    rw [sif_t c]
    refine ret_eq (bi1_eq (x := .lst (r.map (nmV W))) ?_ rfl)
    refine lc_map (enc := iD) (nmV W) r rfl (by omega) fun k hk => ⟨dE W p rows (some (iD r.length)) o4 (some (rwI r)) (some (iD k)) (some (.lst ((List.range r.length).map fun k => stpQD W (stpQ r k)))), rfl, ?_⟩
    exact nm_ix rfl rfl (hr.2.2 k hk)
  | false =>
    rw [h] at c
    right
    refine ⟨rfl, some (.lst ((List.range r.length).map fun k => stpQD W (stpQ r k))), ?_⟩
    unfold dTs
    rw [seq_nx e7]
    exact seq1 (sif_nx c rfl)
def dBd : So := (sSeq (sSet 4 (fLst lNil))
  (sSeq (sFor (.nm 5) (iVal (evVar 2)) dEx)
  (sSeq (sSet 2 (fBi lstD (lCons (evVar 4) lNil)))
  (sSeq (sFor (.nm 5) (iVal (evVar 2)) dTs)
  sNx))))
theorem d_loop {W : List Str} (hw : W.length ≤ 6) {P : Nat → Nat → Bool} {p : D} (hp : PrOk W P p) : ∀ (m s : Nat) (o3 o4 o5 o6 o7 : Option D), s + 1 + m = W.length →
    (∃ r δ, fnd W.length P m (s + 1) = some r ∧ forGo (.nm 3) dBd ((List.range' (s + 2) m).map iD) (dE W p (cyR W.length allP s) o3 o4 o5 o6 o7) = some (.ret (rowT W r) δ)) ∨
    (fnd W.length P m (s + 1) = none ∧ ∃ rows q3 q4 q5 q6 q7, forGo (.nm 3) dBd ((List.range' (s + 2) m).map iD) (dE W p (cyR W.length allP s) o3 o4 o5 o6 o7) = some (.nx (dE W p rows q3 q4 q5 q6 q7)))
  | 0, s, o3, o4, o5, o6, o7, _ => .inr ⟨rfl, _, _, _, _, _, _, rfl⟩
  | m + 1, s, o3, o4, o5, o6, o7, hs => by
    have ok := cyR_ok (n := W.length) (P := allP) s
    have ok2 := cyR_ok (n := W.length) (P := allP) (s + 1)
    have hlen : (cyR W.length allP s).length * W.length ≤ 800000 := by
      have k1 := cyR_len W.length allP s
      have k2 : W.length ^ (s + 1) ≤ 6 ^ 6 := Nat.le_trans (Nat.pow_le_pow_left hw _) (Nat.pow_le_pow_right (by omega) (by omega))
      have k3 := Nat.mul_le_mul (Nat.le_trans k1 k2) hw
      have k4 : (6 : Nat) ^ 6 * 6 ≤ 800000 := by decide
      omega
    obtain ⟨o5a, o6a, e1⟩ := d_ex (W := W) (p := p) (o3 := some (iD (s + 2))) (o7 := o7) (cyR W.length allP s) (fun r hr => ⟨(ok r hr).1, by rw [(ok r hr).2]; omega⟩) hlen (by omega) o5 o6
    have hd : dBd (dE W p (cyR W.length allP s) (some (iD (s + 2))) o4 o5 o6 o7) = sSeq (sFor (.nm 5) (iVal (evVar 2)) dTs) sNx (dE W p (cyR W.length allP (s + 1)) (some (iD (s + 2))) (some (.lst ((cyR W.length allP (s + 1)).map rwI))) o5a o6a o7) := by
      unfold dBd
      rw [seq_nx (δ' := dE W p (cyR W.length allP s) (some (iD (s + 2))) (some (.lst [])) o5 o6 o7) rfl]
      rw [seq_nx (δ' := dE W p (cyR W.length allP s) (some (iD (s + 2))) (some (.lst ((exts W.length allP (cyR W.length allP s)).map rwI))) o5a o6a o7) (by show forGo _ _ _ _ = _; exact e1)]
      rw [seq_nx (δ' := dE W p (cyR W.length allP (s + 1)) (some (iD (s + 2))) (some (.lst ((cyR W.length allP (s + 1)).map rwI))) o5a o6a o7) rfl]
    have est : forGo (.nm 3) dBd ((List.range' (s + 2) (m + 1)).map iD) (dE W p (cyR W.length allP s) o3 o4 o5 o6 o7) = (match dBd (dE W p (cyR W.length allP s) (some (iD (s + 2))) o4 o5 o6 o7) with
        | some (.nx δ2) => forGo (.nm 3) dBd ((List.range' (s + 1 + 2) m).map iD) δ2
        | some (.ct δ2) => forGo (.nm 3) dBd ((List.range' (s + 1 + 2) m).map iD) δ2
        | some (.brk δ2) => some (.nx δ2)
        | r => r) := rfl
    have efn : fnd W.length P (m + 1) (s + 1) = match (cyR W.length allP (s + 1)).find? (full P) with | some r => some r | none => fnd W.length P m (s + 1 + 1) := by
      rw [find_pth]
      rfl
    rcases find_split (p := full P) (l := cyR W.length allP (s + 1)) with ⟨h1, h2⟩ | ⟨a, x, b, h1, h2, h3, h4⟩
    · obtain ⟨δ', ef, o5b, o7b, rfl⟩ := forGo_pre (enc := rwI) (t := .nm 5) (body := dTs) (fun dn δ => ∃ o5 o7, δ = dE W p (cyR W.length allP (s + 1)) (some (iD (s + 2))) (some (.lst ((cyR W.length allP (s + 1)).map rwI))) o5 o6a o7) (cyR W.length allP (s + 1)) (dE W p (cyR W.length allP (s + 1)) (some (iD (s + 2))) (some (.lst ((cyR W.length allP (s + 1)).map rwI))) o5a o6a o7) ⟨o5a, o7, rfl⟩ (by
        rintro dn r rest δ he ⟨o5, o7, rfl⟩
        have hm : r ∈ cyR W.length allP (s + 1) := by rw [he]; simp
        obtain ⟨k1, k2⟩ := ok2 r hm
        rcases d_ts hp (rows := cyR W.length allP (s + 1)) k1 (by omega) (some (.lst ((cyR W.length allP (s + 1)).map rwI))) o6a o7 with ⟨hf, _⟩ | ⟨_, o7', et⟩
        · rw [h2 r hm] at hf; cases hf
        · rw [k2] at et
          exact ⟨dE W p (cyR W.length allP (s + 1)) (some (iD (s + 2))) (some (.lst ((cyR W.length allP (s + 1)).map rwI))) (some (rwI r)) o6a o7, dE W p (cyR W.length allP (s + 1)) (some (iD (s + 2))) (some (.lst ((cyR W.length allP (s + 1)).map rwI))) (some (rwI r)) o6a o7', rfl, et, _, _, rfl⟩)
      have body : dBd (dE W p (cyR W.length allP s) (some (iD (s + 2))) o4 o5 o6 o7) = some (.nx (dE W p (cyR W.length allP (s + 1)) (some (iD (s + 2))) (some (.lst ((cyR W.length allP (s + 1)).map rwI))) o5b o6a o7b)) := by
        rw [hd]
        exact seq1 (by show forGo _ _ _ _ = _; exact ef)
      rw [est, body, efn, h1]
      exact d_loop hw hp m (s + 1) _ _ _ _ _ (by omega)
    · obtain ⟨k1, k2⟩ := ok2 x (by rw [h1]; simp)
      left
      obtain ⟨δ', ef⟩ := forGo_ret (enc := rwI) (t := .nm 5) (body := dTs) (fun δ => ∃ o5 o7, δ = dE W p (cyR W.length allP (s + 1)) (some (iD (s + 2))) (some (.lst ((cyR W.length allP (s + 1)).map rwI))) o5 o6a o7) x b (rowT W x) a (dE W p (cyR W.length allP (s + 1)) (some (iD (s + 2))) (some (.lst ((cyR W.length allP (s + 1)).map rwI))) o5a o6a o7) ⟨o5a, o7, rfl⟩ (by
        rintro r hr δ ⟨o5, o7, rfl⟩
        have hm : r ∈ cyR W.length allP (s + 1) := by rw [h1]; simp [hr]
        obtain ⟨k1, k2⟩ := ok2 r hm
        rcases d_ts hp (rows := cyR W.length allP (s + 1)) k1 (by omega) (some (.lst ((cyR W.length allP (s + 1)).map rwI))) o6a o7 with ⟨hf, _⟩ | ⟨_, o7', et⟩
        · rw [h4 r hr] at hf; cases hf
        · rw [k2] at et
          exact ⟨dE W p (cyR W.length allP (s + 1)) (some (iD (s + 2))) (some (.lst ((cyR W.length allP (s + 1)).map rwI))) (some (rwI r)) o6a o7, dE W p (cyR W.length allP (s + 1)) (some (iD (s + 2))) (some (.lst ((cyR W.length allP (s + 1)).map rwI))) (some (rwI r)) o6a o7', rfl, et, _, _, rfl⟩) (by
        rintro δ ⟨o5, o7, rfl⟩
        rcases d_ts hp (rows := cyR W.length allP (s + 1)) k1 (by omega) (some (.lst ((cyR W.length allP (s + 1)).map rwI))) o6a o7 with ⟨_, δ2, et⟩ | ⟨hf, _⟩
        · rw [k2] at et
          exact ⟨dE W p (cyR W.length allP (s + 1)) (some (iD (s + 2))) (some (.lst ((cyR W.length allP (s + 1)).map rwI))) (some (rwI x)) o6a o7, δ2, rfl, et⟩
        · rw [h3] at hf; cases hf)
      have body : dBd (dE W p (cyR W.length allP s) (some (iD (s + 2))) o4 o5 o6 o7) = some (.ret (rowT W x) δ') := by
        rw [hd]
        refine seq_ret ?_
        show forGo _ _ ((cyR W.length allP (s + 1)).map rwI) _ = _
        generalize hG : dE W p (cyR W.length allP (s + 1)) (some (iD (s + 2))) (some (.lst ((cyR W.length allP (s + 1)).map rwI))) o5a o6a o7 = δg at ef ⊢
        rw [h1]
        exact ef
      refine ⟨x, δ', by rw [efn, h2], ?_⟩
      rw [est, body]
theorem due_eq {W : List Str} (hw : W.length ≤ 6) {P : Nat → Nat → Bool} {p : D} (hp : PrOk W P p) : φ_law_due [stL W, p] = some (.ok (cyD W (fnd W.length P (W.length - 1) 1))) := by
  unfold φ_law_due defF
  rw [show startE 9 [stL W, p] = [some (stL W), some p, none, none, none, none, none, none, none] from rfl]
  unfold g_law_due
  have el : ∀ δ : Ev.Env, δ[0]? = some (some (stL W)) → fBi lenD (lCons (evVar 0) lNil) δ = some (.ok (.int (W.length : Int))) := fun δ h => bi1_eq (x := stL W) (by unfold evVar; rw [h]) (by
    show some (D.int ((W.map D.str).length : Int)) = _
    rw [List.length_map])
  have es : lcF (.nm 6) none (fLst (lCons (evVar 6) lNil)) (iRng1 (fBi lenD (lCons (evVar 0) lNil))) [6] [some (stL W), some p, none, none, none, none, none, none, none] = some (.ok (.lst ((List.range W.length).map fun k => D.lst [iD k]))) :=
    lc_map (enc := iD) (fun k => D.lst [iD k]) (List.range W.length) (rng1G (el _ rfl) (by omega)) (by rw [List.length_range]; omega) fun k _ => ⟨_, rfl, rfl⟩
  rw [seq_nx (δ' := dE W p (cyR W.length allP 0) none none none none none) (by
    rw [set_eq es]
    show some (Out.nx [some (stL W), some p, some (.lst ((List.range W.length).map fun k => D.lst [iD k])), none, none, none, none, none, none]) = some (Out.nx [some (stL W), some p, some (.lst ((cyR W.length allP 0).map rwI)), none, none, none, none, none, none])
    have : (cyR W.length allP 0).map rwI = (List.range W.length).map fun k => D.lst [iD k] := by
      show (sgl W.length).map rwI = _
      unfold sgl
      rw [List.map_map]
      rfl
    rw [this])]
  have er : iRng2 (fC (.int 2)) (fBin addD (fBi lenD (lCons (evVar 0) lNil)) (fC (.int 1))) (dE W p (cyR W.length allP 0) none none none none none) = some (.ok ((List.range' 2 (W.length + 1 - 2)).map iD)) := rng2G (a := 2) (n := W.length + 1) rfl (bin_eq (x := .int (W.length : Int)) (y := .int 1) (el _ rfl) rfl (by rw [add_int]; rfl)) (by omega) (by omega)
  by_cases h0 : W.length = 0
  · rw [seq_nx (δ' := dE W p (cyR W.length allP 0) none none none none none) (by
      unfold sFor
      rw [er]
      show forGo _ _ ((List.range' 2 (W.length + 1 - 2)).map iD) _ = _
      rw [show W.length + 1 - 2 = 0 by omega]
      rfl)]
    rw [ret_eq (d := .tup []) rfl, show W.length - 1 = 0 by omega]
    rfl
  · rcases d_loop hw hp (W.length - 1) 0 none none none none none (by omega) with ⟨r, δ, h1, h2⟩ | ⟨h1, rows, o3, o4, o5, o6, o7, h2⟩
    · rw [seq_ret (d := rowT W r) (δ' := δ) (by
        unfold sFor
        rw [er]
        show forGo _ _ ((List.range' 2 (W.length + 1 - 2)).map iD) _ = _
        rw [show W.length + 1 - 2 = W.length - 1 by omega]
        exact h2)]
      rw [h1]
      rfl
    · rw [seq_nx (δ' := dE W p rows o3 o4 o5 o6 o7) (by
        unfold sFor
        rw [er]
        show forGo _ _ ((List.range' 2 (W.length + 1 - 2)).map iD) _ = _
        rw [show W.length + 1 - 2 = W.length - 1 by omega]
        exact h2)]
      rw [ret_eq (d := .tup []) rfl, h1]
      rfl
end Q

set_option maxHeartbeats 4000000
namespace Q
open PySem PySem.Spec PyProof.Rows L2 Ev Z
def prI (q : Str × Str) : D := .tup [.str q.1, .str q.2]
def inP (W : List Str) (ps : List (Str × Str)) (i j : Nat) : Bool := ps.any fun q => decide (q.1 = nmA W i) && decide (q.2 = nmA W j)
theorem okDs_prI (n : Nat) : ∀ l : List (Str × Str), okDs (n + 1) (l.map prI) = true
  | [] => rfl
  | x :: l => by
    show (okDs n [.str x.1, .str x.2] && okDs (n + 1) (l.map prI)) = true
    rw [okDs_prI n l]
    cases n <;> rfl
theorem any_prI (a b : Str) : ∀ l : List (Str × Str), ((l.map prI).any fun z => eqB z (.tup [.str a, .str b])) = l.any fun q => decide (q.1 = a) && decide (q.2 = b)
  | [] => rfl
  | y :: l => by
    rw [List.map_cons, List.any_cons, List.any_cons, any_prI a b l]
    congr 1
    show (decide (y.1 = a) && (decide (y.2 = b) && true)) = _
    rw [Bool.and_true]
theorem pr_lst (W : List Str) (ps : List (Str × Str)) : PrOk W (inP W ps) (.lst (ps.map prI)) := fun i j _ _ => by
  have e : inN false (.tup [nmV W i, nmV W j]) (.lst (ps.map prI)) = some (inP W ps i j) := by
    show (if okDs 58 [nmV W i, nmV W j] && okDs 59 (ps.map prI) then some ((ps.map prI).any fun z => eqB z (.tup [nmV W i, nmV W j])) else none) = _
    rw [okDs_prI 58]
    unfold nmV
    rw [any_prI]
    rfl
  refine ⟨e, ?_⟩
  have : inN true (.tup [nmV W i, nmV W j]) (.lst (ps.map prI)) = (inN false (.tup [nmV W i, nmV W j]) (.lst (ps.map prI))).map (!·) := rfl
  rw [this, e]
  rfl
theorem pr_tup (W : List Str) (ps : List (Str × Str)) : PrOk W (inP W ps) (.tup (ps.map prI)) := fun i j hi hj => by
  obtain ⟨h1, h2⟩ := pr_lst W ps i j hi hj
  exact ⟨h1, h2⟩
theorem eqBs_prI : ∀ l : List (Str × Str), eqBs (l.map prI) (l.map prI) = true
  | [] => rfl
  | (a, b) :: l => by
    show ((decide (a = a) && (decide (b = b) && true)) && eqBs (l.map prI) (l.map prI)) = true
    rw [eqBs_prI l]
    simp
theorem ne_prI (l : List (Str × Str)) : neD (.lst (l.map prI)) (.lst (l.map prI)) = some false := by
  have h : okD 60 (.lst (l.map prI)) = true := okDs_prI 58 l
  unfold neD eqD
  rw [h]
  show (some (eqBs (l.map prI) (l.map prI))).map _ = _
  rw [eqBs_prI]
  rfl
theorem cut_m1 {α : Type} (xs : List α) : cutG xs none (some (-1)) = xs.dropLast := by
  unfold cutG
  rw [show HT.sIx xs.length xs.length (some (-1)) = xs.length - 1 by
    show (if (-1 : Int) < 0 then ((-1 : Int) + (xs.length : Int)).toNat else min (-1 : Int).toNat xs.length) = _
    rw [if_pos (by decide)]
    omega]
  show (xs.drop 0).take (xs.length - 1 - 0) = _
  rw [List.drop_zero, Nat.sub_zero, List.dropLast_eq_take]
def paE (ns : List Int) (W : List Str) (m : Nat) (n : Int) (l : List Int) (ps : List (Str × Str)) (o6 o7 o8 : Option D) : Ev.Env := [some (.lck ns), some (stL W), some (iD m), some (.int n), some (nd l), some (.lst (ps.map prI)), o6, o7, o8]
theorem pairs_eq (ns : List Int) (W : List Str) (m : Nat) (hm : m ≤ 16) : ∃ ps : List (Str × Str), ps.length ≤ m ∧ φ_law_pairs [.lck ns, stL W, iD m] = some (.ok (.lst (ps.map prI))) := by
  obtain ⟨l, hl, _, el⟩ := numbers ns 1 32 (by omega) (by omega)
  have len : ∀ δ : Ev.Env, δ[1]? = some (some (stL W)) → fBi lenD (lCons (evVar 1) lNil) δ = some (.ok (.int (W.length : Int))) := fun δ h => bi1_eq (x := stL W) (by unfold evVar; rw [h]) (by
    show some (D.int ((W.map D.str).length : Int)) = _
    rw [List.length_map])
  suffices h : ∃ ps : List (Str × Str), ps.length ≤ m ∧ ∃ o6 o7 o8, (sIf (fCmp (op pGt) (evVar 3) (fC (.int 1))) (sSeq (sFor (.nm 6) (iRng1 (evVar 2)) (sSeq (sSet 7 (fBin modD (fBi intD (lCons (fIx (evVar 4) (fBin mulD (fC (.int 2)) (evVar 6))) lNil)) (evVar 3)))
  (sSeq (sSet 8 (fBin modD (fBi intD (lCons (fBin addD (fBin addD (evVar 7) (fC (.int 1))) (fBin modD (fBi intD (lCons (fIx (evVar 4) (fBin addD (fBin mulD (fC (.int 2)) (evVar 6)) (fC (.int 1)))) lNil)) (fBin subD (evVar 3) (fC (.int 1))))) lNil)) (evVar 3)))
  (sSeq (sApp 5 (fTup (lCons (fIx (evVar 1) (evVar 7)) (lCons (fIx (evVar 1) (evVar 8)) lNil))))
  sNx))))
  sNx) sNx) (paE ns W m W.length l [] none none none) = some (.nx (paE ns W m W.length l ps o6 o7 o8)) by
    obtain ⟨ps, hps, o6, o7, o8, h⟩ := h
    refine ⟨ps, hps, ?_⟩
    unfold φ_law_pairs defF
    rw [show startE 9 [D.lck ns, stL W, iD m] = [some (.lck ns), some (stL W), some (iD m), none, none, none, none, none, none] from rfl]
    unfold g_law_pairs
    rw [seq_nx (δ' := [some (.lck ns), some (stL W), some (iD m), some (.int (W.length : Int)), none, none, none, none, none]) (set_eq (len _ rfl))]
    rw [seq_nx (δ' := [some (.lck ns), some (stL W), some (iD m), some (.int (W.length : Int)), some (nd l), none, none, none, none]) (set_eq (call_eq (cons_eq (d := .lck ns) rfl (cons_eq (d := .int 1) rfl (cons_eq (d := .int 32) rfl rfl))) el))]
    rw [seq_nx (δ' := paE ns W m W.length l [] none none none) rfl]
    rw [seq_nx h]
    rfl
  have c1 : fCmp (op pGt) (evVar 3) (fC (.int 1)) (paE ns W m W.length l [] none none none) = some (.ok (.bl (decide (1 < (W.length : Int))))) := rfl
  by_cases h2 : 2 ≤ W.length
  · rw [decide_eq_true (by omega)] at c1
    obtain ⟨δ', e, ps, o6, o7, o8, hps, rfl⟩ := forGo_pre (enc := iD) (t := .nm 6) (body := (sSeq (sSet 7 (fBin modD (fBi intD (lCons (fIx (evVar 4) (fBin mulD (fC (.int 2)) (evVar 6))) lNil)) (evVar 3)))
  (sSeq (sSet 8 (fBin modD (fBi intD (lCons (fBin addD (fBin addD (evVar 7) (fC (.int 1))) (fBin modD (fBi intD (lCons (fIx (evVar 4) (fBin addD (fBin mulD (fC (.int 2)) (evVar 6)) (fC (.int 1)))) lNil)) (fBin subD (evVar 3) (fC (.int 1))))) lNil)) (evVar 3)))
  (sSeq (sApp 5 (fTup (lCons (fIx (evVar 1) (evVar 7)) (lCons (fIx (evVar 1) (evVar 8)) lNil))))
  sNx)))) (fun dn δ => ∃ (ps : List (Str × Str)) (o6 o7 o8 : Option D), ps.length = dn.length ∧ δ = paE ns W m W.length l ps o6 o7 o8) (List.range m) (paE ns W m W.length l [] none none none) ⟨[], none, none, none, rfl, rfl⟩ (by
      rintro dn k rest δ he ⟨ps, o6, o7, o8, hps, rfl⟩
      have hk : k < m := List.mem_range.mp (by rw [he]; simp)
      have hdn : dn.length < m := by
        have := congrArg List.length he
        rw [List.length_range, List.length_append, List.length_cons] at this
        omega
      obtain ⟨a, ea, ha⟩ := mod_nat (l[2 * k]'(by omega)) W.length (by omega)
      obtain ⟨b, eb, hb⟩ := mod_nat ((a : Int) + 1 + (l[2 * k + 1]'(by omega)) % ((W.length : Int) - 1)) W.length (by omega)
      refine ⟨paE ns W m W.length l ps (some (iD k)) o7 o8, paE ns W m W.length l (ps ++ [(W[a], W[b])]) (some (iD k)) (some (iD a)) (some (iD b)), rfl, ?_, ps ++ [(W[a], W[b])], _, _, _, by rw [List.length_append, List.length_append, hps]; rfl, rfl⟩
      have m2 : ∀ δ : Ev.Env, δ[6]? = some (some (iD k)) → fBin mulD (fC (.int 2)) (evVar 6) δ = some (.ok (.int ((2 * k : Nat) : Int))) := fun δ h => bin_eq (x := .int 2) (y := .int (k : Int)) rfl (by unfold evVar; rw [h]; rfl) (by rw [mul_int _ _ rfl]; congr 1)
      rw [seq_nx (δ' := paE ns W m W.length l ps (some (iD k)) (some (iD a)) o8) (set_eq (bin_eq (x := .int (l[2 * k]'(by omega))) (y := .int (W.length : Int)) (bi1_eq (ix_eq (x := inL l) (y := .int ((2 * k : Nat) : Int)) rfl (m2 _ rfl) (get_int (by omega))) rfl) rfl (by rw [mod_int _ (by omega), ea]; rfl)))]
      rw [seq_nx (δ' := paE ns W m W.length l ps (some (iD k)) (some (iD a)) (some (iD b))) (set_eq (bin_eq (x := .int ((a : Int) + 1 + (l[2 * k + 1]'(by omega)) % ((W.length : Int) - 1))) (y := .int (W.length : Int)) (bi1_eq (bin_eq (x := .int ((a : Int) + 1)) (y := .int ((l[2 * k + 1]'(by omega)) % ((W.length : Int) - 1))) (bin_eq (x := .int (a : Int)) (y := .int 1) rfl rfl (add_int _ _)) (bin_eq (x := .int (l[2 * k + 1]'(by omega))) (y := .int ((W.length : Int) - 1)) (bi1_eq (ix_eq (x := inL l) (y := .int ((2 * k + 1 : Nat) : Int)) rfl (bin_eq (x := .int ((2 * k : Nat) : Int)) (y := .int 1) (m2 _ rfl) rfl (by rw [add_int]; rfl)) (get_int (by omega))) rfl) rfl (mod_int _ (by omega))) (add_int _ _)) rfl) rfl (by rw [mod_int _ (by omega), eb]; rfl)))]
      refine seq1 ?_
      rw [app_eq (ds := ps.map prI) (d := prI (W[a], W[b])) rfl (tupE' (cons_eq (ix_eq (x := stL W) (y := .int (a : Int)) rfl rfl (get_str ha)) (cons_eq (ix_eq (x := stL W) (y := .int (b : Int)) rfl rfl (get_str hb)) rfl))) (by rw [List.length_map]; omega)]
      show some (Out.nx (paE ns W m W.length l ps _ _ _ |>.set 5 (some (.lst (ps.map prI ++ [prI (W[a], W[b])]))))) = _
      rw [show ps.map prI ++ [prI (W[a], W[b])] = (ps ++ [(W[a], W[b])]).map prI by rw [List.map_append]; rfl]
      rfl)
    rw [List.length_range] at hps
    refine ⟨ps, by omega, o6, o7, o8, ?_⟩
    rw [sif_t c1]
    refine seq1 ?_
    unfold sFor
    rw [rng1G (n := m) rfl (by omega)]
    exact e
  · rw [decide_eq_false (by omega)] at c1
    exact ⟨[], by simp, none, none, none, sif_nx c1 rfl⟩
def ciE (ns : List Int) (W : List Str) (s : Nat) (l : List Int) (left row : List Str) (o6 o7 : Option D) : Ev.Env := [some (.lck ns), some (stL W), some (iD s), some (nd l), some (stL left), some (stL row), o6, o7]
theorem circle_eq (ns : List Int) (W : List Str) (s : Nat) (h1 : 1 ≤ s) (h2 : s ≤ W.length) (h3 : s ≤ 5) (hw : W.length ≤ 6) : ∃ ps : List (Str × Str), ps.length = s ∧ φ_law_circle [.lck ns, stL W, iD s] = some (.ok (.lst (ps.map prI))) := by
  obtain ⟨l, hl, _, el⟩ := numbers ns 2 5 (by omega) (by omega)
  obtain ⟨δ', e, left, row, o6, o7, hrow, hleft, rfl⟩ := forGo_pre (enc := iD) (t := .nm 6) (body := (sSeq (sSet 7 (fBin modD (fBi intD (lCons (fIx (evVar 3) (evVar 6)) lNil)) (fBi lenD (lCons (evVar 4) lNil))))
  (sSeq (sApp 5 (fIx (evVar 4) (evVar 7)))
  (sSeq (sSet 4 (fBin addD (fSl (evVar 4) none (some (evVar 7))) (fSl (evVar 4) (some (fBin addD (evVar 7) (fC (.int 1)))) none)))
  sNx)))) (fun dn δ => ∃ (left row : List Str) (o6 o7 : Option D), row.length = dn.length ∧ left.length + dn.length = W.length ∧ δ = ciE ns W s l left row o6 o7) (List.range s) (ciE ns W s l W [] none none) ⟨W, [], none, none, rfl, rfl, rfl⟩ (by
    rintro dn k rest δ he ⟨left, row, o6, o7, hrow, hleft, rfl⟩
    have hk : k < s := List.mem_range.mp (by rw [he]; simp)
    have hdn : dn.length < s := by
      have := congrArg List.length he
      rw [List.length_range, List.length_append, List.length_cons] at this
      omega
    obtain ⟨a, ea, ha⟩ := mod_nat (l[k]'(by omega)) left.length (by omega)
    refine ⟨ciE ns W s l left row (some (iD k)) o7, ciE ns W s l (left.take a ++ left.drop (a + 1)) (row ++ [left[a]]) (some (iD k)) (some (iD a)), rfl, ?_, left.take a ++ left.drop (a + 1), row ++ [left[a]], _, _, by rw [List.length_append, List.length_append, hrow]; rfl, by rw [List.length_append, List.length_append, List.length_take, List.length_drop, List.length_singleton]; omega, rfl⟩
    rw [seq_nx (δ' := ciE ns W s l left row (some (iD k)) (some (iD a))) (set_eq (bin_eq (x := .int (l[k]'(by omega))) (y := .int (left.length : Int)) (bi1_eq (ix_eq (x := inL l) (y := .int (k : Int)) rfl rfl (get_int (by omega))) rfl) (bi1_eq (x := stL left) rfl (by
      show some (D.int ((left.map D.str).length : Int)) = _
      rw [List.length_map])) (by rw [mod_int _ (by omega), ea]; rfl)))]
    rw [seq_nx (δ' := ciE ns W s l left (row ++ [left[a]]) (some (iD k)) (some (iD a))) (by
      rw [app_eq (ds := row.map D.str) (d := .str left[a]) rfl (ix_eq (x := stL left) (y := .int (a : Int)) rfl rfl (get_str ha)) (by rw [List.length_map]; omega)]
      show some (Out.nx (ciE ns W s l left row _ _ |>.set 5 (some (.lst (row.map D.str ++ [.str left[a]]))))) = _
      rw [show row.map D.str ++ [D.str left[a]] = (row ++ [left[a]]).map D.str by rw [List.map_append]; rfl]
      rfl)]
    refine seq1 (set_eq (bin_eq (x := stL (left.take a)) (y := stL (left.drop (a + 1))) (slS_hi (l := left) rfl rfl) (slS_lo (l := left) (a := a + 1) rfl (bin_eq (x := .int (a : Int)) (y := .int 1) rfl rfl (by rw [add_int]; rfl))) (add_st (by rw [List.length_take, List.length_drop]; omega)))))
  rw [List.length_range] at hrow
  refine ⟨(List.range s).map fun k => (row.getD k "", row.getD ((k + 1) % s) ""), by rw [List.length_map, List.length_range], ?_⟩
  unfold φ_law_circle defF
  rw [show startE 8 [D.lck ns, stL W, iD s] = [some (.lck ns), some (stL W), some (iD s), none, none, none, none, none] from rfl]
  unfold g_law_circle
  rw [seq_nx (δ' := [some (.lck ns), some (stL W), some (iD s), some (nd l), none, none, none, none]) (set_eq (call_eq (cons_eq (d := .lck ns) rfl (cons_eq (d := .int 2) rfl (cons_eq (d := .int 5) rfl rfl))) el))]
  rw [seq_nx (δ' := [some (.lck ns), some (stL W), some (iD s), some (nd l), some (stL W), none, none, none]) (set_eq (bi1_eq (x := stL W) rfl rfl))]
  rw [seq_nx (δ' := ciE ns W s l W [] none none) rfl]
  rw [seq_nx (δ' := ciE ns W s l left row o6 o7) (by
    unfold sFor
    rw [rng1G (n := s) rfl (by omega)]
    exact e)]
  have gd : ∀ {k : Nat}, k < row.length → row[k]? = some (row.getD k "") := fun {k} h => by
    rw [List.getD_eq_getElem?_getD, List.getElem?_eq_getElem h]
    rfl
  have ix : ∀ {fa : EF} {δ : Ev.Env} {k : Nat}, δ[5]? = some (some (stL row)) → fa δ = some (.ok (iD k)) → k < row.length → fIx (evVar 5) fa δ = some (.ok (.str (row.getD k ""))) := fun {fa δ k} h0 ha hk => by
    refine ix_eq (x := stL row) (y := iD k) (by unfold evVar; rw [h0]) ha ?_
    show atI (row.map D.str) (k : Int) = _
    rw [atI_lit, List.getElem?_map, gd hk]
    rfl
  rw [ret_eq (lc_map (enc := iD) (fun k => prI (row.getD k "", row.getD ((k + 1) % s) "")) (List.range s) (rng1G (n := s) rfl (by omega)) (by rw [List.length_range]; omega) fun k hk => by
    have hk := List.mem_range.mp hk
    refine ⟨ciE ns W s l left row (some (iD k)) o7, rfl, ?_⟩
    refine tupE' (cons_eq (ix rfl rfl (by omega)) (cons_eq (ix (k := (k + 1) % s) rfl ?_ (by rw [hrow, List.length_range] at *; exact Nat.mod_lt _ (by omega))) rfl))
    refine bin_eq (x := .int ((k + 1 : Nat) : Int)) (y := .int (s : Int)) (bi1_eq (x := .int ((k + 1 : Nat) : Int)) (bin_eq (x := .int (k : Int)) (y := .int 1) rfl rfl (by rw [add_int]; rfl)) rfl) rfl ?_
    rw [mod_int _ (by omega)]
    rfl)]
  rw [List.map_map]
  rfl
theorem fnd_len {n : Nat} {P : Nat → Nat → Bool} : ∀ {m s : Nat} {r : List Nat}, fnd n P m s = some r → r.length ≤ s + m
  | 0, s, r, h => by cases h
  | m + 1, s, r, h => by
    unfold fnd at h
    cases h2 : (cyR n P s).find? (cls P) with
    | some q =>
      rw [h2] at h
      cases h
      have := (cyR_ok s _ (List.mem_of_find?_eq_some h2)).2
      omega
    | none =>
      rw [h2] at h
      have := fnd_len h
      omega
theorem cy_same {W : List Str} {n : Nat} {P : Nat → Nat → Bool} {m s : Nat} (h : s + m ≤ 100) : φ_law_same [cyD W (fnd n P m s), cyD W (fnd n P m s)] = some (.ok (.bl true)) := by
  cases e : fnd n P m s with
  | none => exact same_eq _ rfl (by show 1 ≤ 1000000; omega)
  | some r =>
    have hr := fnd_len e
    have k1 : ∀ k : List Nat, pls 6 (k.map (nmV W)) = true := fun k => pls_iff.mpr fun x hx => by
      obtain ⟨i, _, rfl⟩ := List.mem_map.mp hx
      rfl
    have k2 : ∀ k : List Nat, wts (k.map (nmV W)) = k.length := fun k => by
      induction k with
      | nil => rfl
      | cons x k ih =>
        show wt (nmV W x) + wts (k.map (nmV W)) = _
        rw [ih, List.length_cons]
        show 1 + _ = _
        omega
    refine same_eq _ (k1 r) ?_
    show 1 + wts (r.map (nmV W)) ≤ _
    rw [k2]
    omega
def lwT (gT : So) : So := (sSeq (sSet 5 (fCall φ_law_due (lCons (evVar 2) (lCons (evVar 3) lNil))))
  (sSeq (sIf (fOr (fNot (fCall φ_law_same (lCons (fCall φ_shortest_lock_cycle (lCons (fBi tupD (lCons (evVar 2) lNil)) (lCons (evVar 4) lNil))) (lCons (evVar 5) lNil)))) (fCmp (neD) (fBi lstD (lCons (evVar 4) lNil)) (evVar 3))) (sSeq (sRet (fC (.bl false)))
  sNx) sNx)
  (sSeq (sIf (fCmp (eqD) (fBi lenD (lCons (evVar 3) lNil)) (fC (.int 0))) (sSeq (sRet (fC (.bl true)))
  sNx) sNx)
  (sSeq (sSet 6 (fSl (evVar 3) none (some (fC (.int (-1))))))
  (sSeq (sIf (fIsi .list (evVar 4)) gT sNx)
  (sSeq (sRet (fCall φ_law_same (lCons (fCall φ_shortest_lock_cycle (lCons (fBi tupD (lCons (evVar 2) lNil)) (lCons (fBi tupD (lCons (evVar 6) lNil)) lNil))) (lCons (fCall φ_law_due (lCons (evVar 2) (lCons (evVar 6) lNil))) lNil))))
  sNx))))))
def lwE (ns l : List Int) (W : List Str) (ps : List (Str × Str)) (o4 o5 o6 : Option D) : Ev.Env := [some (.lck ns), some (nd l), some (stL W), some (.lst (ps.map prI)), o4, o5, o6]
def cyF (W : List Str) (ps : List (Str × Str)) : D := cyD W (fnd W.length (inP W ps) (W.length - 1) 1)
theorem lw_tail {ns l : List Int} {W : List Str} (nd : W.Nodup) (hw : W.length ≤ 6) {ps : List (Str × Str)} (hps : ps.length ≤ 1000) {H : D} {gT : So} {b : Bool} (hp : PrOk W (inP W ps) H) (hl : lstD [H] = some (.lst (ps.map prI))) (hb : Tn.list.has H = some b)
    (hT : b = true → ps.length ≠ 0 → ∃ o4, gT (lwE ns l W ps (some H) (some (cyF W ps)) (some (.lst (ps.dropLast.map prI)))) = some (.nx (lwE ns l W ps o4 (some (cyF W ps)) (some (.lst (ps.dropLast.map prI)))))) : ∃ δ, lwT gT (lwE ns l W ps (some H) none none) = some (.ret (.bl true) δ) := by
  have due : ∀ (qs : List (Str × Str)) (fb : EF) (δ : Ev.Env), δ[2]? = some (some (stL W)) → fb δ = some (.ok (.lst (qs.map prI))) → fCall φ_law_due (lCons (evVar 2) (lCons fb lNil)) δ = some (.ok (cyF W qs)) := fun qs fb δ h2 h3 => call_eq (cons_eq (d := stL W) (by unfold evVar; rw [h2]) (cons_eq h3 rfl)) (due_eq hw (pr_lst W qs))
  have slc : ∀ (qs : List (Str × Str)) (p : D) (fb : EF) (δ : Ev.Env), PrOk W (inP W qs) p → δ[2]? = some (some (stL W)) → fb δ = some (.ok p) → fCall φ_shortest_lock_cycle (lCons (fBi tupD (lCons (evVar 2) lNil)) (lCons fb lNil)) δ = some (.ok (cyF W qs)) := fun qs p fb δ hp h2 h3 => call_eq (cons_eq (d := .tup (W.map D.str)) (bi1_eq (x := stL W) (by unfold evVar; rw [h2]) rfl) (cons_eq h3 rfl)) (slc_eq nd hw hp)
  have same : ∀ (qs : List (Str × Str)) (fa fb : EF) (δ : Ev.Env), fa δ = some (.ok (cyF W qs)) → fb δ = some (.ok (cyF W qs)) → fCall φ_law_same (lCons fa (lCons fb lNil)) δ = some (.ok (.bl true)) := fun qs fa fb δ h2 h3 => call_eq (cons_eq h2 (cons_eq h3 rfl)) (cy_same (by omega))
  unfold lwT
  rw [seq_nx (δ' := lwE ns l W ps (some H) (some (cyF W ps)) none) (set_eq (due ps _ _ rfl rfl))]
  rw [seq_nx (δ' := lwE ns l W ps (some H) (some (cyF W ps)) none) (sif_nx (or_eq (a := false) (b := false) (not_eq (a := true) (same ps _ _ _ (slc ps H _ _ hp rfl rfl) rfl)) (cmp_eq (x := .lst (ps.map prI)) (y := .lst (ps.map prI)) (bi1_eq (x := H) rfl hl) rfl (ne_prI ps))) rfl)]
  have c : fCmp eqD (fBi lenD (lCons (evVar 3) lNil)) (fC (.int 0)) (lwE ns l W ps (some H) (some (cyF W ps)) none) = some (.ok (.bl (decide (ps.length = 0)))) := by
    refine cmp_eq (x := .int (ps.length : Int)) (y := .int 0) (bi1_eq (x := .lst (ps.map prI)) rfl ?_) rfl ?_
    · show some (D.int ((ps.map prI).length : Int)) = _
      rw [List.length_map]
    · rw [eq_int]
      congr 1
      exact decide_eq_decide.mpr (by omega)
  by_cases h0 : ps.length = 0
  · rw [decide_eq_true h0] at c
    refine ⟨lwE ns l W ps (some H) (some (cyF W ps)) none, seq_ret ?_⟩
    rw [sif_t c]
    exact ret_eq rfl
  · rw [decide_eq_false h0] at c
    rw [seq_nx (sif_nx c rfl)]
    rw [seq_nx (δ' := lwE ns l W ps (some H) (some (cyF W ps)) (some (.lst (ps.dropLast.map prI)))) (set_eq (by
      show okO (some (D.lst (cutG (ps.map prI) none (some (-1))))) = _
      rw [cut_m1, List.map_dropLast]
      rfl))]
    have fin : ∀ o4, (sSeq (sRet (fCall φ_law_same (lCons (fCall φ_shortest_lock_cycle (lCons (fBi tupD (lCons (evVar 2) lNil)) (lCons (fBi tupD (lCons (evVar 6) lNil)) lNil))) (lCons (fCall φ_law_due (lCons (evVar 2) (lCons (evVar 6) lNil))) lNil))))
  sNx) (lwE ns l W ps o4 (some (cyF W ps)) (some (.lst (ps.dropLast.map prI)))) = some (.ret (.bl true) (lwE ns l W ps o4 (some (cyF W ps)) (some (.lst (ps.dropLast.map prI))))) := fun o4 =>
      ret_eq (same ps.dropLast _ _ _ (slc ps.dropLast (.tup (ps.dropLast.map prI)) _ _ (pr_tup W _) rfl (bi1_eq (x := .lst (ps.dropLast.map prI)) rfl rfl)) (due ps.dropLast _ _ rfl rfl))
    have ci : fIsi .list (evVar 4) (lwE ns l W ps (some H) (some (cyF W ps)) (some (.lst (ps.dropLast.map prI)))) = some (.ok (.bl b)) := by
      show okB (Tn.list.has H) = _
      rw [hb]
      rfl
    cases b with
    | true =>
      obtain ⟨o4, eT⟩ := hT rfl h0
      rw [seq_nx (δ' := lwE ns l W ps o4 (some (cyF W ps)) (some (.lst (ps.dropLast.map prI)))) (by rw [sif_t ci]; exact eT)]
      exact ⟨_, fin o4⟩
    | false =>
      rw [seq_nx (sif_nx ci rfl)]
      exact ⟨_, fin _⟩
theorem law_true (ns : List Int) : φ_law [.lck ns] = some (.ok (.bl true)) := by
  unfold φ_law defF
  rw [show startE 7 [D.lck ns] = [some (.lck ns), none, none, none, none, none, none] from rfl]
  unfold g_law
  obtain ⟨l, hl, _, el⟩ := numbers ns 0 8 (by omega) (by omega)
  have ixl : ∀ (k : Nat) (hk : k < l.length) (δ : Ev.Env), δ[1]? = some (some (nd l)) → fBi intD (lCons (fIx (evVar 1) (fC (.int (k : Int)))) lNil) δ = some (.ok (.int l[k])) := fun k hk δ h => bi1_eq (x := .int l[k]) (ix_eq (x := inL l) (y := .int (k : Int)) (by unfold evVar; rw [h]; rfl) rfl (get_int hk)) rfl
  rw [seq_nx (δ' := [some (.lck ns), some (nd l), none, none, none, none, none]) (set_eq (call_eq (cons_eq (d := .lck ns) rfl (cons_eq (d := .int 0) rfl (cons_eq (d := .int 8) rfl rfl))) el))]
  obtain ⟨W0, ew, hW, _⟩ := names_eq (l[1]'(by omega)) (l[2]'(by omega))
  obtain ⟨n, en, hn⟩ := mod_nat (l[0]'(by omega)) 6 (by omega)
  have ix1 : ∀ (k : Nat) (hk : k < l.length) (δ : Ev.Env), δ[1]? = some (some (nd l)) → fIx (evVar 1) (fC (.int (k : Int))) δ = some (.ok (.int l[k])) := fun k hk δ h => ix_eq (x := inL l) (y := .int (k : Int)) (by unfold evVar; rw [h]; rfl) rfl (get_int hk)
  have ndW : (W0.take n).Nodup := hW.nd.sublist (List.take_sublist _ _)
  have hlW : (W0.take n).length ≤ 5 := by rw [List.length_take]; omega
  rw [seq_nx (δ' := [some (.lck ns), some (nd l), some (stL (W0.take n)), none, none, none, none]) (set_eq (slS_hi (l := W0) (b := n) (call_eq (cons_eq (ix1 1 (by omega) _ rfl) (cons_eq (ix1 2 (by omega) _ rfl) rfl)) ew) (bin_eq (x := .int (l[0]'(by omega))) (y := .int 6) (ixl 0 (by omega) _ rfl) rfl (by
    rw [mod_int _ (by decide)]
    congr 2))))]
  generalize hWW : W0.take n = W at ndW hlW
  obtain ⟨m, em, hm⟩ := mod_nat (l[3]'(by omega)) 16 (by omega)
  obtain ⟨ps, hps, ep⟩ := pairs_eq ns W m (by omega)
  rw [seq_nx (δ' := lwE ns l W ps none none none) (set_eq (call_eq (cons_eq (d := .lck ns) rfl (cons_eq (d := stL W) rfl (cons_eq (d := iD m) (bin_eq (x := .int (l[3]'(by omega))) (y := .int 16) (ixl 3 (by omega) _ rfl) rfl (by
    rw [mod_int _ (by decide)]
    show some (D.int _) = some (D.int (m : Int))
    rw [← em]
    rfl)) rfl))) ep))]
  have st : ∃ qs : List (Str × Str), qs.length ≤ 100 ∧ (sIf (fAnd (fCmp (op pGt) (fBi lenD (lCons (evVar 2) lNil)) (fC (.int 1))) (fCmp (eqD) (fBin modD (fBi intD (lCons (fIx (evVar 1) (fC (.int 5))) lNil)) (fC (.int 3))) (fC (.int 1)))) (sSeq (sSet 3 (fBin addD (fCall φ_law_circle (lCons (evVar 0) (lCons (evVar 2) (lCons (fBin addD (fC (.int 2)) (fBin modD (fBi intD (lCons (fIx (evVar 1) (fC (.int 6))) lNil)) (fBin subD (fBi lenD (lCons (evVar 2) lNil)) (fC (.int 1))))) lNil)))) (evVar 3)))
  sNx) sNx) (lwE ns l W ps none none none) = some (.nx (lwE ns l W qs none none none)) := by
    have lenW : fBi lenD (lCons (evVar 2) lNil) (lwE ns l W ps none none none) = some (.ok (.int (W.length : Int))) := bi1_eq (x := stL W) rfl (by
      show some (D.int ((W.map D.str).length : Int)) = _
      rw [List.length_map])
    have c1 : fCmp (op pGt) (fBi lenD (lCons (evVar 2) lNil)) (fC (.int 1)) (lwE ns l W ps none none none) = some (.ok (.bl (decide (1 < (W.length : Int))))) := cmp_eq (x := .int (W.length : Int)) (y := .int 1) lenW rfl rfl
    have c2 : fCmp (eqD) (fBin modD (fBi intD (lCons (fIx (evVar 1) (fC (.int 5))) lNil)) (fC (.int 3))) (fC (.int 1)) (lwE ns l W ps none none none) = some (.ok (.bl (decide ((l[5]'(by omega)) % 3 = 1)))) := cmp_eq (x := .int ((l[5]'(by omega)) % 3)) (y := .int 1) (bin_eq (x := .int (l[5]'(by omega))) (y := .int 3) (ixl 5 (by omega) _ rfl) rfl (mod_int _ (by decide))) rfl (eq_int _ _)
    have c := and_eq c1 c2
    cases hc : (decide (1 < (W.length : Int)) && decide ((l[5]'(by omega)) % 3 = 1)) with
    | false =>
      rw [hc] at c
      exact ⟨ps, by omega, sif_nx c rfl⟩
    | true =>
      rw [hc] at c
      have h2 : 1 < (W.length : Int) := by
        have := (Bool.and_eq_true_iff.mp hc).1
        exact of_decide_eq_true this
      obtain ⟨k, ek, hk⟩ := mod_nat (l[6]'(by omega)) (W.length - 1) (by omega)
      obtain ⟨cs, hcs, ec⟩ := circle_eq ns W (2 + k) (by omega) (by omega) (by omega) (by omega)
      refine ⟨cs ++ ps, by rw [List.length_append]; omega, ?_⟩
      rw [sif_t c]
      refine (seq1 (set_eq (d := .lst ((cs ++ ps).map prI)) (bin_eq (x := .lst (cs.map prI)) (y := .lst (ps.map prI)) (call_eq (cons_eq (d := .lck ns) rfl (cons_eq (d := stL W) rfl (cons_eq (d := iD (2 + k)) (bin_eq (x := .int 2) (y := .int (k : Int)) rfl (bin_eq (x := .int (l[6]'(by omega))) (y := .int ((W.length : Int) - 1)) (ixl 6 (by omega) _ rfl) (bin_eq (x := .int (W.length : Int)) (y := .int 1) lenW rfl rfl) (by
        rw [mod_int _ (by omega), ← ek]
        congr 2
        congr 1
        omega)) (by rw [add_int]; show some (D.int _) = some (D.int _); congr 1)) rfl))) ec) rfl ?_))).trans ?_
      · show (if (cs.map prI).length + (ps.map prI).length ≤ sizeLine then some (D.lst (cs.map prI ++ ps.map prI)) else none) = _
        rw [if_pos (le_sL (by rw [List.length_map, List.length_map]; omega)), List.map_append]
      · rfl
  obtain ⟨qs, hqs, est⟩ := st
  rw [seq_nx est]
  rw [seq_nx (δ' := lwE ns l W qs (some (.lst (qs.map prI))) none none) (set_eq (bi1_eq (x := .lst (qs.map prI)) rfl rfl))]
  have c : fCmp (eqD) (fBin modD (fBi intD (lCons (fIx (evVar 1) (fC (.int 4))) lNil)) (fC (.int 2))) (fC (.int 1)) (lwE ns l W qs (some (.lst (qs.map prI))) none none) = some (.ok (.bl (decide ((l[4]'(by omega)) % 2 = 1)))) := cmp_eq (x := .int ((l[4]'(by omega)) % 2)) (y := .int 1) (bin_eq (x := .int (l[4]'(by omega))) (y := .int 2) (ixl 4 (by omega) _ rfl) rfl (mod_int _ (by decide))) rfl (eq_int _ _)
  suffices h : ∃ δ, (sAlt (fCmp (eqD) (fBin modD (fBi intD (lCons (fIx (evVar 1) (fC (.int 4))) lNil)) (fC (.int 2))) (fC (.int 1))) 4 (fBi tupD (lCons (evVar 3) lNil)) (lwT (sSeq (sPop 4)
  (sFrz 4 (sSeq (sIf (fNot (fCall φ_law_same (lCons (fCall φ_shortest_lock_cycle (lCons (fBi tupD (lCons (evVar 2) lNil)) (lCons (evVar 4) lNil))) (lCons (fCall φ_law_due (lCons (evVar 2) (lCons (evVar 6) lNil))) lNil)))) (sSeq (sRet (fC (.bl false)))
  sNx) sNx)
  sNx)))) (lwT (sSeq sNever
  (sSeq (sIf (fNot (fCall φ_law_same (lCons (fCall φ_shortest_lock_cycle (lCons (fBi tupD (lCons (evVar 2) lNil)) (lCons (evVar 4) lNil))) (lCons (fCall φ_law_due (lCons (evVar 2) (lCons (evVar 6) lNil))) lNil)))) (sSeq (sRet (fC (.bl false)))
  sNx) sNx)
  sNx)))) (lwE ns l W qs (some (.lst (qs.map prI))) none none) = some (.ret (.bl true) δ) by
    obtain ⟨δ, h⟩ := h
    exact (congrArg _ h).trans rfl
  unfold sAlt
  rw [c]
  by_cases hc : (l[4]'(by omega)) % 2 = 1
  · rw [decide_eq_true hc]
    have e1 : fBi tupD (lCons (evVar 3) lNil) (lwE ns l W qs (some (.lst (qs.map prI))) none none) = some (.ok (.tup (qs.map prI))) := bi1_eq (x := .lst (qs.map prI)) rfl rfl
    simp only [bndSB, if_true, e1, bndS]
    obtain ⟨δ, h⟩ := lw_tail (ns := ns) (l := l) ndW (by omega) (ps := qs) (by omega) (H := .tup (qs.map prI)) (gT := (sSeq sNever
  (sSeq (sIf (fNot (fCall φ_law_same (lCons (fCall φ_shortest_lock_cycle (lCons (fBi tupD (lCons (evVar 2) lNil)) (lCons (evVar 4) lNil))) (lCons (fCall φ_law_due (lCons (evVar 2) (lCons (evVar 6) lNil))) lNil)))) (sSeq (sRet (fC (.bl false)))
  sNx) sNx)
  sNx))) (b := false) (pr_tup W qs) rfl rfl nofun
    refine ⟨δ.set 4 none, ?_⟩
    show unsO 4 (lwT _ (lwE ns l W qs (some (.tup (qs.map prI))) none none)) = _
    rw [h]
    rfl
  · rw [decide_eq_false hc]
    simp only [bndSB, if_false, Bool.false_eq_true]
    refine lw_tail (ns := ns) (l := l) ndW (by omega) (ps := qs) (by omega) (H := .lst (qs.map prI)) (b := true) (pr_lst W qs) rfl rfl fun _ h0 => ⟨none, ?_⟩
    rw [seq_nx (δ' := lwE ns l W qs (some (.lst (qs.dropLast.map prI))) (some (cyF W qs)) (some (.lst (qs.dropLast.map prI)))) (by
      show (if (qs.map prI).length = 0 then none else some (Out.nx (lwE ns l W qs (some (.lst (qs.map prI).dropLast)) (some (cyF W qs)) (some (.lst (qs.dropLast.map prI)))))) = _
      rw [List.length_map, if_neg h0, List.map_dropLast])]
    have e1 : fCall φ_law_same (lCons (fCall φ_shortest_lock_cycle (lCons (fBi tupD (lCons (evVar 2) lNil)) (lCons (evVar 4) lNil))) (lCons (fCall φ_law_due (lCons (evVar 2) (lCons (evVar 6) lNil))) lNil)) (lwE ns l W qs (some (.lst (qs.dropLast.map prI))) (some (cyF W qs)) (some (.lst (qs.dropLast.map prI)))) = some (.ok (.bl true)) :=
      call_eq (cons_eq (call_eq (cons_eq (d := .tup (W.map D.str)) (bi1_eq (x := stL W) rfl rfl) (cons_eq (d := .lst (qs.dropLast.map prI)) rfl rfl)) (slc_eq ndW (by omega) (pr_lst W _))) (cons_eq (call_eq (cons_eq (d := stL W) rfl (cons_eq (d := .lst (qs.dropLast.map prI)) rfl rfl)) (due_eq (by omega) (pr_lst W _))) rfl)) (cy_same (by omega))
    unfold sFrz
    rw [seq1 (sif_nx (not_eq (a := true) e1) rfl)]
    rfl
end Q

set_option maxHeartbeats 0
open PySem PySem.W PySem.Calls PyProof.Rows
theorem PySem.Challenge.cw_heldcalls_k47_shortest_lock_cycle_holds : PySem.Challenge.rw_heldcalls_k47_shortest_lock_cycle.Holds := by
  w_on; o_law
  refine HandSHeadRun.head_any (r := OpenLaw.row PySem.Challenge.rw_heldcalls_k47_shortest_lock_cycle) (q := view (OpenLaw.row PySem.Challenge.rw_heldcalls_k47_shortest_lock_cycle).prog [11]) (H := Z.hk) (ob := Z.ob) (M := 12000) (loose := Z.loose) (d := HandSHeadRun.topDef (OpenLaw.row PySem.Challenge.rw_heldcalls_k47_shortest_lock_cycle).prog 11) (kwd := []) Z.ob_eq
    (by kernel_rfl) (fun s => by kernel_rfl) Z.run (by kernel_rfl) (by kernel_rfl) (by kernel_rfl) (by rfl) (by first | assumption | decide +kernel) (by decide +kernel) ⟨rfl, rfl, rfl, rfl, rfl, by decide +kernel⟩ ?hw ?hc
  case hw => w_witness2
  case hc =>
    refine Ev.walk_ofW (l := PySem.Challenge.rw_heldcalls_k47_shortest_lock_cycle) (n := 63) (k := 3) (x := "script") rfl (by decide) (by kernel_rfl) ⟨rfl, by decide, by decide⟩ ?F
    intro w mg fa h Y G hmg0
    obtain ⟨K, KX, c⟩ := Y
    letI : Ev.Wd := ⟨w⟩
    have hmg : mg ("law" : PySem.Str) = some (.ref fa) := by
      have e : (HandSHeadRun.topDef (OpenLaw.row PySem.Challenge.rw_heldcalls_k47_shortest_lock_cycle).prog 11).name = ("law" : PySem.Str) := by kernel_rfl
      rw [← e]
      exact hmg0
    obtain ⟨fd, hb, hF⟩ := Z.facts (P := (PySem.Challenge.rw_heldcalls_k47_shortest_lock_cycle).prog) (w := w) KX G hmg c
    exact ⟨K, fd, _, KX, hb, fun H a ns hl hS => Ev.law_end hS (Q.law_true ns), hF⟩

