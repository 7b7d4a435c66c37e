import PyProof.Rows.All
import Wide.All
import OpenK.AllK
import Wide.FinOn
import KE.KStateDown
import Lean
import HandS.ForMost
import HandS.ForExc
import HandS.Words
import HandS.WordsExc
import HandS.Defaults
import HandS.Deep
import HandS.TupAny
import HandS.Conv
import HandS.StrMore
import HandS.ExcOwn
import HandS.CallSlots
import HandS.Head0
import HandS.Head1
import HandS.Head2
import HandS.HeadEnd
import HandS.HeadHook1
import HandS.HeadHook2
import HandS.HeadHook3
import HandS.ExcInit
import HandS.ExcField
import HandS.ExcIs
import KE.KExcSuper
import KE.KItemsList
import PyProof.ZipIter
import PyProof.Rows.ZipGen
import PyProof.WalksMore
import HandS.Zip0
import HandS.Base
import HandS.Call
import HandS.List
import HandS.Dict
import HandS.Iter
import HandS.Zip
import HandS.ListItems
import HandS.IsInst
import HandS.WordsDict
import HandS.NoneIn
import HandS.ClsMeth
import HandS.Property
import HandS.Star
import HandS.Nested
import KE.GoesEnum
import KE.GoesMore
import HandS.Text
import PyProof.StrLawsTight
import PySem.Challenge.RW_heldcalls_k76_error_classes
set_option Elab.async false
set_option linter.all false
set_option maxRecDepth 100000
set_option maxHeartbeats 4000000
/-! Ev, part H0: what the head's hook looks at (definitions alone, so that a law's run can stand ahead of all else). -/
namespace Ev
open PySem PySem.Spec PyProof.Rows L2
/-- a def behind a record (a property's, a classmethod's) -/
structure PfD where
  cls : Str
  meth : Str
  kind : String
  d : He.DefD
def recA (K : PySem.W.Frag) (C m : Str) (T : String) : Addr := match PySem.W.recIn K (He.ma K (He.ga K C) m) T with
  | some (.ref g :: _) => g
  | _ => 0
def PfD.addr (K : PySem.W.Frag) (q : PfD) : Addr := if q.kind = "init" then He.ma K (He.ga K q.cls) q.meth else recA K q.cls q.meth q.kind
def fnA (K : PySem.W.Frag) (kd : String) (a : Addr) : He.FnW := match K.lookup a with
  | some ⟨_, _, .func fd, _⟩ => some (fd.name, fd.qualname, fd.params, fd.body, fd.scope, fd.globals, if kd = "init" then [] else fd.closure, fd.builtins)
  | _ => none
def okA (K : PySem.W.Frag) (a : Addr) (d : He.DefD) : Bool := PySem.W.keepIn K (.ref a) && (match K.lookup a with
  | some ⟨_, _, .func fd, _⟩ => PySem.W.codeIn K fd.code d.qual && (He.dflB K fd.defaults (d.dvs K) && He.kwdB K fd.kwdefaults (d.kws K))
  | _ => false)
abbrev AlH : Type := He.AlT × Bool × List He.FnW
def obsH (fa : List He.Fa) (fn : List He.DefD) (ts : List He.Tab) (pf : List PfD) (ex : PySem.W.Frag → Bool) (K : PySem.W.Frag) : AlH := (He.obsT fa fn ts K, (pf.all fun q => okA K (q.addr K) q.d) && ex K, pf.map fun q => fnA K q.kind (q.addr K))
def valH (fn : List He.DefD) (ts : List He.Tab) (pf : List PfD) (w : World) : AlH := (He.valT fn ts w, true, pf.map fun q => q.d.val)
def SaysH (fa : List He.Fa) (fn : List He.DefD) (ts : List He.Tab) (pf : List PfD) (ex : PySem.W.Frag → Bool) (w : World) (K : PySem.W.Frag) : Prop := obsH fa fn ts pf ex K = valH fn ts pf w
def obsHG (n : Nat) (fa : List He.Fa) (fn : List He.DefD) (ts : List He.Tab) (pf : List PfD) (ex : PySem.W.Frag → Bool) (g : Addr → Option Obj) : AlH := obsH fa fn ts pf ex (He.frG g (PySem.cStatics :: He.asD g n))
def hookH (n : Nat) (fa : List He.Fa) (fn : List He.DefD) (ts : List He.Tab) (pf : List PfD) (ex : PySem.W.Frag → Bool) : PySem.W.Hook where
  α := AlH
  obs := fun s => obsHG n fa fn ts pf ex s.heap.get?
  val := fun w => valH fn ts pf w
  says := fun w h => ∃ K : PySem.W.Frag, K.In h ∧ SaysH fa fn ts pf ex w K
  of := fun _ _ e => ⟨_, He.frG_in, e⟩
  keeps := fun _ _ _ ⟨K, hK, c⟩ k => ⟨K, PySem.W.Frag.In.keeps hK k, c⟩
theorem obsHG_eq {n : Nat} {fa : List He.Fa} {fn : List He.DefD} {ts : List He.Tab} {pf : List PfD} {ex : PySem.W.Frag → Bool} {g : Addr → Option Obj} {s : Shared} (h : ∀ a, g a = s.heap.get? a) : obsHG n fa fn ts pf ex g = (hookH n fa fn ts pf ex).obs s := by
  have e : g = s.heap.get? := funext h
  rw [e] <;> rfl
def propB (K : PySem.W.Frag) (C m : Str) : Bool := He.eqO (PySem.W.findIn K (.ref (He.ga K C)) m) (some (some (.ref (He.ma K (He.ga K C) m)))) && (He.eqO (PySem.W.specialIn K (.ref (He.ma K (He.ga K C) m)) "__get__") (some (some (.builtin "property.__get__"))) &&
  (decide (PySem.W.takesIn K (.ref (He.ma K (He.ga K C) m)) = some true) && (match PySem.W.recIn K (He.ma K (He.ga K C) m) "property" with
    | some (.ref _ :: _) => true
    | _ => false)))
def creadB (K : PySem.W.Frag) (C : Str) : Bool := PySem.W.readsIn K (He.ga K C) (.type "type") && He.eqO (PySem.W.specialIn K (.ref (He.ga K C)) "__getattribute__") (some (some (.builtin "type.__getattribute__")))
def cmetB (K : PySem.W.Frag) (C m : Str) : Bool := (match PySem.W.findCls K (.ref (He.ga K C)) (.type "type") m with
    | some (.get (.builtin s) (.ref p) .none (.ref D)) => decide (s = "classmethod.__get__" ∧ p = He.ma K (He.ga K C) m ∧ D = He.ga K C)
    | _ => false) && ((match PySem.W.recIn K (He.ma K (He.ga K C) m) "classmethod" with
    | some (.ref _ :: _) => true
    | _ => false) && PySem.W.fnIn K (recA K C m "classmethod"))
def cintB (K : PySem.W.Frag) (C f : Str) (i : Int) : Bool :=
  PySem.W.readsIn K (He.ga K C) (.type "type") && (He.eqO (PySem.W.specialIn K (.ref (He.ga K C)) "__getattribute__") (some (some (.builtin "type.__getattribute__"))) &&
    (match PySem.W.findCls K (.ref (He.ga K C)) (.type "type") f with
      | some (.val (.int j _)) => decide (j = i)
      | _ => false))
/-- an own error class that an __init__ of D makes -/
def oexB (K : PySem.W.Frag) (C : Addr) : Bool := (match K.lookup C with
  | some ⟨.type ty, _, .cls cd, sl⟩ => (match cd.mro, sl.toList with
    | .ref C' :: bm, [_, _, _, _, some (.builtin n), _] => decide (ty = "type") && (decide (C' = C) && (decide (n = "ValueError.__new__") && (!cd.hasDel && (cd.hasDict && PySem.HandSPX.refsVE bm))))
    | _, _ => false)
  | _ => false) && (He.eqO (PySem.W.findIn K (.ref C) "__setattr__") (some (some (.builtin "object.__setattr__"))) && (decide (PySem.W.subIn K (.ref C) (.type "BaseException") = some true) && (decide (PySem.W.typeIn K (.ref C) = some (.type "type")) && PySem.W.keepIn K (.ref C))))
def iniCB (K : PySem.W.Frag) (D C : Addr) (flds : List Str) : Bool := oexB K C && (He.eqO (PySem.W.ks_superIn K C D "__init__") (some (some (.builtin "ValueError.__init__"))) && (decide (PySem.W.mroIn K C (.ref D) = some true) && (decide (PySem.W.subIn K (.ref C) (.type "ValueError") = some true) && flds.all fun f => He.eqO (PySem.W.findIn K (.ref C) f) (some none))))
def iniKB (K : PySem.W.Frag) (D : Addr) (qual file : Str) : Bool := (match K.lookup (He.ma K D "__init__") with
  | some ⟨_, _, .func fd, _⟩ => (match fd.closure, fd.code with
    | [(n, cc)], .ref cda => decide (n = "__class__") && (fd.annotations.isNone && ((match K.lookup cc with
      | some ⟨_, _, .cell (some (.ref D')), _⟩ => decide (D' = D)
      | _ => false) && (match K.lookup cda with
      | some ⟨_, _, .fields vs, _⟩ => (match vs.toList with
        | _ :: _ :: .str f _ :: _ => f == file
        | _ => false)
      | _ => false)))
    | _, _ => false)
  | _ => false) && (He.eqO (PySem.W.nsIn K mainGlobals "super") (some none) && (He.eqO (PySem.W.nsIn K cStatics "thirdparty.any") (some none) && ((PySem.W.clsIn K D).isSome && decide (PySem.W.typeIn K (.ref (He.ma K D "__init__")) = some (.type "function")))))
def xclB (K : PySem.W.Frag) (C : Addr) (flds : List Str) : Bool := xfB K C && (He.eqO (PySem.W.findIn K (.ref C) "__class__") (some (some (.builtin "object.__class__"))) && (He.eqO (PySem.W.specialIn K (.builtin "object.__class__") "__get__") (some (some (.builtin "getset_descriptor.__get__"))) && (decide (PySem.W.takesIn K (.builtin "object.__class__") = some true) &&
  (decide (PySem.W.mroIn K C (.type "object") = some true) && flds.all fun f => He.eqO (PySem.W.findIn K (.ref C) f) (some none)))))
def exmB (K : PySem.W.Frag) (ts : List (Str × Bool)) (C : Str) : Bool := ts.all fun q => decide (PySem.W.exmOne K (.ref (He.ga K q.1)) (.ref (He.ga K C)) = some q.2)
def kitB (K : PySem.W.Frag) (ts : List (Str × Bool)) (C : Str) : Bool := ts.all fun q => decide (PySem.W.kitOne K (.ref (He.ga K q.1)) (.ref (He.ga K C)) = some q.2)
def kitTB (K : PySem.W.Frag) (ts : List (Str × Bool)) (T : String) : Bool := ts.all fun q => decide (PySem.W.kitOne K (.ref (He.ga K q.1)) (.type T) = some q.2)
def iniFB (K : PySem.W.Frag) (D C : Str) : Bool := He.eqO (PySem.W.findIn K (.ref (He.ga K C)) "__init__") (some (some (.ref (He.ma K (He.ga K D) "__init__"))))
/-- an own error class without __init__ -/
def xoB (K : PySem.W.Frag) (C : Str) : Bool := PySem.W.excIn K (He.ga K C) [.type "ValueError", .type "Exception", .type "BaseException", .type "object"] "ValueError.__new__" && (PySem.W.keepIn K (.ref (He.ga K C)) && (decide (PySem.W.subIn K (.ref (He.ga K C)) (.type "BaseException") = some true) && decide (PySem.W.typeIn K (.ref (He.ga K C)) = some (.type "type"))))
/-- the class stands first in its mro -/
def selB (K : PySem.W.Frag) (C : Str) : Bool := match PySem.W.clsIn K (He.ga K C) with
  | some cd => (match cd.mro with
    | .ref C' :: _ => decide (C' = He.ga K C)
    | _ => false)
  | none => false
end Ev

set_option maxHeartbeats 4000000
namespace Z
open PySem PySem.Spec PyProof.Rows L2 Ev
def top (i : Nat) : Stmt := PySem.Challenge.pw_heldcalls_k76_error_classes.main.body.getD i (.Pass ⟨0, 0, 0, 0⟩)
def d_law_numbers : He.DefD := ⟨("_law_numbers", none), "_law_numbers", "_law_numbers", defArgs (top 25), defBody (top 25), defScope (top 25), [], []⟩
def d_law_names : He.DefD := ⟨("_law_names", none), "_law_names", "_law_names", defArgs (top 26), defBody (top 26), defScope (top 26), [], []⟩
def d_law_leaf : He.DefD := ⟨("_law_leaf", none), "_law_leaf", "_law_leaf", defArgs (top 27), defBody (top 27), defScope (top 27), [], []⟩
def d_law_same : He.DefD := ⟨("_law_same", none), "_law_same", "_law_same", defArgs (top 28), defBody (top 28), defScope (top 28), [], []⟩
def d_law_raise : He.DefD := ⟨("_law_raise", none), "_law_raise", "_law_raise", defArgs (top 29), defBody (top 29), defScope (top 29), [], []⟩
def d_law_kinds : He.DefD := ⟨("_law_kinds", none), "_law_kinds", "_law_kinds", defArgs (top 30), defBody (top 30), defScope (top 30), [], []⟩
def d_law_line_field : He.DefD := ⟨("_law_line_field", none), "_law_line_field", "_law_line_field", defArgs (top 31), defBody (top 31), defScope (top 31), [], []⟩
def d_law_fields : He.DefD := ⟨("_law_fields", none), "_law_fields", "_law_fields", defArgs (top 32), defBody (top 32), defScope (top 32), [], []⟩
def d_law : He.DefD := ⟨("law", none), "law", "law", defArgs (top 33), defBody (top 33), defScope (top 33), [], []⟩
def d_i_LineError : PfD := ⟨"LineError", "__init__", "init", ⟨("LineError", some "__init__"), "__init__", "LineError.__init__", defArgs (inClass (top 2) 0), defBody (inClass (top 2) 0), defScope (inClass (top 2) 0), [], []⟩⟩
def d_i_NoName : PfD := ⟨"NoName", "__init__", "init", ⟨("NoName", some "__init__"), "__init__", "NoName.__init__", defArgs (inClass (top 10) 0), defBody (inClass (top 10) 0), defScope (inClass (top 10) 0), [], []⟩⟩
def d_i_Repeated : PfD := ⟨"Repeated", "__init__", "init", ⟨("Repeated", some "__init__"), "__init__", "Repeated.__init__", defArgs (inClass (top 11) 0), defBody (inClass (top 11) 0), defScope (inClass (top 11) 0), [], []⟩⟩
def d_i_WrongMove : PfD := ⟨"WrongMove", "__init__", "init", ⟨("WrongMove", some "__init__"), "__init__", "WrongMove.__init__", defArgs (inClass (top 13) 0), defBody (inClass (top 13) 0), defScope (inClass (top 13) 0), [], []⟩⟩
def d_i_BadRun : PfD := ⟨"BadRun", "__init__", "init", ⟨("BadRun", some "__init__"), "__init__", "BadRun.__init__", defArgs (inClass (top 14) 0), defBody (inClass (top 14) 0), defScope (inClass (top 14) 0), [], []⟩⟩
def d_i_NoThread : PfD := ⟨"NoThread", "__init__", "init", ⟨("NoThread", some "__init__"), "__init__", "NoThread.__init__", defArgs (inClass (top 15) 0), defBody (inClass (top 15) 0), defScope (inClass (top 15) 0), [], []⟩⟩
def d_i_MustWait : PfD := ⟨"MustWait", "__init__", "init", ⟨("MustWait", some "__init__"), "__init__", "MustWait.__init__", defArgs (inClass (top 16) 0), defBody (inClass (top 16) 0), defScope (inClass (top 16) 0), [], []⟩⟩
def d_i_Refused : PfD := ⟨"Refused", "__init__", "init", ⟨("Refused", some "__init__"), "__init__", "Refused.__init__", defArgs (inClass (top 17) 0), defBody (inClass (top 17) 0), defScope (inClass (top 17) 0), [], []⟩⟩
def d_i_Deadlocked : PfD := ⟨"Deadlocked", "__init__", "init", ⟨("Deadlocked", some "__init__"), "__init__", "Deadlocked.__init__", defArgs (inClass (top 18) 0), defBody (inClass (top 18) 0), defScope (inClass (top 18) 0), [], []⟩⟩
def d_i_NoRequest : PfD := ⟨"NoRequest", "__init__", "init", ⟨("NoRequest", some "__init__"), "__init__", "NoRequest.__init__", defArgs (inClass (top 19) 0), defBody (inClass (top 19) 0), defScope (inClass (top 19) 0), [], []⟩⟩
def d_i_NoContext : PfD := ⟨"NoContext", "__init__", "init", ⟨("NoContext", some "__init__"), "__init__", "NoContext.__init__", defArgs (inClass (top 20) 0), defBody (inClass (top 20) 0), defScope (inClass (top 20) 0), [], []⟩⟩
def d_i_Clash : PfD := ⟨"Clash", "__init__", "init", ⟨("Clash", some "__init__"), "__init__", "Clash.__init__", defArgs (inClass (top 22) 0), defBody (inClass (top 22) 0), defScope (inClass (top 22) 0), [], []⟩⟩
def d_i_NoLockOrder : PfD := ⟨"NoLockOrder", "__init__", "init", ⟨("NoLockOrder", some "__init__"), "__init__", "NoLockOrder.__init__", defArgs (inClass (top 23) 0), defBody (inClass (top 23) 0), defScope (inClass (top 23) 0), [], []⟩⟩
def fileS : Str := PySem.Challenge.pw_heldcalls_k76_error_classes.main.file
def fn : List He.DefD := [d_law_numbers, d_law_names, d_law_leaf, d_law_same, d_law_raise, d_law_kinds, d_law_line_field, d_law_fields, d_law]
def pf : List PfD := [d_i_LineError, d_i_NoName, d_i_Repeated, d_i_WrongMove, d_i_BadRun, d_i_NoThread, d_i_MustWait, d_i_Refused, d_i_Deadlocked, d_i_NoRequest, d_i_NoContext, d_i_Clash, d_i_NoLockOrder]
def fa0 : List He.Fa := [.free "len", .free "int", .free "abs", .free "range", .free "isinstance", .free "bool", .free "str", .free "tuple", .free "list", .free "zip", .glo "Overfull", .glo "NoRunCycle", .glo "HeldError", .glo "LineError", .glo "BadForm", .glo "Misplaced", .glo "Duplicate", .glo "Unknown", .glo "NotNested", .glo "TooMany", .glo "TooLong", .glo "NoName", .glo "Repeated", .glo "WrongMove", .glo "BadRun", .glo "NoThread", .glo "MustWait", .glo "Refused", .glo "Deadlocked", .glo "NoRequest", .glo "NoContext", .glo "Clash", .glo "NoLockOrder", .free "ValueError", .glo "_law_numbers", .glo "_law_names", .glo "_law_leaf", .glo "_law_same", .glo "_law_raise", .glo "_law_kinds"]
def fa1 : List He.Fa := [.glo "_law_line_field", .glo "_law_fields", .glo "law"]
def fa : List He.Fa := fa0 ++ fa1
def ts : List He.Tab := []
def ex (K : PySem.W.Frag) : Bool := xoB K "Overfull" && (xoB K "NoRunCycle" && (exmB K [("LineError", true), ("BadForm", true), ("Misplaced", true), ("Duplicate", true), ("Unknown", true), ("NotNested", true), ("TooMany", true), ("TooLong", true), ("NoName", true), ("Repeated", true), ("Overfull", true), ("WrongMove", true), ("BadRun", true), ("NoThread", true), ("MustWait", true), ("Refused", true), ("Deadlocked", true), ("NoRequest", true), ("NoContext", true), ("NoRunCycle", true), ("Clash", true), ("NoLockOrder", true)] "HeldError" && (xclB K (He.ga K "LineError") ["number"] && (xclB K (He.ga K "BadForm") ["number"] && (xclB K (He.ga K "Misplaced") ["number"] && (xclB K (He.ga K "Duplicate") ["number"] && (xclB K (He.ga K "Unknown") ["number"] && (xclB K (He.ga K "NotNested") ["number"] && (xclB K (He.ga K "TooMany") ["number"] && (xclB K (He.ga K "TooLong") ["number"] && (xclB K (He.ga K "NoName") ["name"] && (xclB K (He.ga K "Repeated") ["name"] && (xclB K (He.ga K "Overfull") [] && (xclB K (He.ga K "WrongMove") ["move"] && (xclB K (He.ga K "BadRun") ["at"] && (xclB K (He.ga K "NoThread") ["thread"] && (xclB K (He.ga K "MustWait") ["lock", "blocker"] && (xclB K (He.ga K "Refused") ["at"] && (xclB K (He.ga K "Deadlocked") ["cycle"] && (xclB K (He.ga K "NoRequest") ["request"] && (xclB K (He.ga K "NoContext") ["context"] && (xclB K (He.ga K "NoRunCycle") [] && (xclB K (He.ga K "Clash") ["cycle"] && (xclB K (He.ga K "NoLockOrder") ["cycle"] && (kitB K [("LineError", true), ("BadForm", true), ("Misplaced", true), ("Duplicate", true), ("Unknown", true), ("NotNested", true), ("TooMany", true), ("TooLong", true), ("NoName", false), ("Repeated", false), ("Overfull", false), ("WrongMove", false), ("BadRun", false), ("NoThread", false), ("MustWait", false), ("Refused", false), ("Deadlocked", false), ("NoRequest", false), ("NoContext", false), ("NoRunCycle", false), ("Clash", false), ("NoLockOrder", false)] "LineError" && (kitB K [("LineError", false), ("BadForm", true), ("Misplaced", false), ("Duplicate", false), ("Unknown", false), ("NotNested", false), ("TooMany", false), ("TooLong", false), ("NoName", false), ("Repeated", false), ("Overfull", false), ("WrongMove", false), ("BadRun", false), ("NoThread", false), ("MustWait", false), ("Refused", false), ("Deadlocked", false), ("NoRequest", false), ("NoContext", false), ("NoRunCycle", false), ("Clash", false), ("NoLockOrder", false)] "BadForm" && (kitB K [("LineError", false), ("BadForm", false), ("Misplaced", true), ("Duplicate", false), ("Unknown", false), ("NotNested", false), ("TooMany", false), ("TooLong", false), ("NoName", false), ("Repeated", false), ("Overfull", false), ("WrongMove", false), ("BadRun", false), ("NoThread", false), ("MustWait", false), ("Refused", false), ("Deadlocked", false), ("NoRequest", false), ("NoContext", false), ("NoRunCycle", false), ("Clash", false), ("NoLockOrder", false)] "Misplaced" && (kitB K [("LineError", false), ("BadForm", false), ("Misplaced", false), ("Duplicate", true), ("Unknown", false), ("NotNested", false), ("TooMany", false), ("TooLong", false), ("NoName", false), ("Repeated", false), ("Overfull", false), ("WrongMove", false), ("BadRun", false), ("NoThread", false), ("MustWait", false), ("Refused", false), ("Deadlocked", false), ("NoRequest", false), ("NoContext", false), ("NoRunCycle", false), ("Clash", false), ("NoLockOrder", false)] "Duplicate" && (kitB K [("LineError", false), ("BadForm", false), ("Misplaced", false), ("Duplicate", false), ("Unknown", true), ("NotNested", false), ("TooMany", false), ("TooLong", false), ("NoName", false), ("Repeated", false), ("Overfull", false), ("WrongMove", false), ("BadRun", false), ("NoThread", false), ("MustWait", false), ("Refused", false), ("Deadlocked", false), ("NoRequest", false), ("NoContext", false), ("NoRunCycle", false), ("Clash", false), ("NoLockOrder", false)] "Unknown" && (kitB K [("LineError", false), ("BadForm", false), ("Misplaced", false), ("Duplicate", false), ("Unknown", false), ("NotNested", true), ("TooMany", false), ("TooLong", false), ("NoName", false), ("Repeated", false), ("Overfull", false), ("WrongMove", false), ("BadRun", false), ("NoThread", false), ("MustWait", false), ("Refused", false), ("Deadlocked", false), ("NoRequest", false), ("NoContext", false), ("NoRunCycle", false), ("Clash", false), ("NoLockOrder", false)] "NotNested" && (kitB K [("LineError", false), ("BadForm", false), ("Misplaced", false), ("Duplicate", false), ("Unknown", false), ("NotNested", false), ("TooMany", true), ("TooLong", false), ("NoName", false), ("Repeated", false), ("Overfull", false), ("WrongMove", false), ("BadRun", false), ("NoThread", false), ("MustWait", false), ("Refused", false), ("Deadlocked", false), ("NoRequest", false), ("NoContext", false), ("NoRunCycle", false), ("Clash", false), ("NoLockOrder", false)] "TooMany" && (kitB K [("LineError", false), ("BadForm", false), ("Misplaced", false), ("Duplicate", false), ("Unknown", false), ("NotNested", false), ("TooMany", false), ("TooLong", true), ("NoName", false), ("Repeated", false), ("Overfull", false), ("WrongMove", false), ("BadRun", false), ("NoThread", false), ("MustWait", false), ("Refused", false), ("Deadlocked", false), ("NoRequest", false), ("NoContext", false), ("NoRunCycle", false), ("Clash", false), ("NoLockOrder", false)] "TooLong" && (kitB K [("LineError", false), ("BadForm", false), ("Misplaced", false), ("Duplicate", false), ("Unknown", false), ("NotNested", false), ("TooMany", false), ("TooLong", false), ("NoName", true), ("Repeated", false), ("Overfull", false), ("WrongMove", false), ("BadRun", false), ("NoThread", false), ("MustWait", false), ("Refused", false), ("Deadlocked", false), ("NoRequest", false), ("NoContext", false), ("NoRunCycle", false), ("Clash", false), ("NoLockOrder", false)] "NoName" && (kitB K [("LineError", false), ("BadForm", false), ("Misplaced", false), ("Duplicate", false), ("Unknown", false), ("NotNested", false), ("TooMany", false), ("TooLong", false), ("NoName", false), ("Repeated", true), ("Overfull", false), ("WrongMove", false), ("BadRun", false), ("NoThread", false), ("MustWait", false), ("Refused", false), ("Deadlocked", false), ("NoRequest", false), ("NoContext", false), ("NoRunCycle", false), ("Clash", false), ("NoLockOrder", false)] "Repeated" && (kitB K [("LineError", false), ("BadForm", false), ("Misplaced", false), ("Duplicate", false), ("Unknown", false), ("NotNested", false), ("TooMany", false), ("TooLong", false), ("NoName", false), ("Repeated", false), ("Overfull", true), ("WrongMove", false), ("BadRun", false), ("NoThread", false), ("MustWait", false), ("Refused", false), ("Deadlocked", false), ("NoRequest", false), ("NoContext", false), ("NoRunCycle", false), ("Clash", false), ("NoLockOrder", false)] "Overfull" && (kitB K [("LineError", false), ("BadForm", false), ("Misplaced", false), ("Duplicate", false), ("Unknown", false), ("NotNested", false), ("TooMany", false), ("TooLong", false), ("NoName", false), ("Repeated", false), ("Overfull", false), ("WrongMove", true), ("BadRun", false), ("NoThread", false), ("MustWait", false), ("Refused", false), ("Deadlocked", false), ("NoRequest", false), ("NoContext", false), ("NoRunCycle", false), ("Clash", false), ("NoLockOrder", false)] "WrongMove" && (kitB K [("LineError", false), ("BadForm", false), ("Misplaced", false), ("Duplicate", false), ("Unknown", false), ("NotNested", false), ("TooMany", false), ("TooLong", false), ("NoName", false), ("Repeated", false), ("Overfull", false), ("WrongMove", false), ("BadRun", true), ("NoThread", false), ("MustWait", false), ("Refused", false), ("Deadlocked", false), ("NoRequest", false), ("NoContext", false), ("NoRunCycle", false), ("Clash", false), ("NoLockOrder", false)] "BadRun" && (kitB K [("LineError", false), ("BadForm", false), ("Misplaced", false), ("Duplicate", false), ("Unknown", false), ("NotNested", false), ("TooMany", false), ("TooLong", false), ("NoName", false), ("Repeated", false), ("Overfull", false), ("WrongMove", false), ("BadRun", false), ("NoThread", true), ("MustWait", false), ("Refused", false), ("Deadlocked", false), ("NoRequest", false), ("NoContext", false), ("NoRunCycle", false), ("Clash", false), ("NoLockOrder", false)] "NoThread" && (kitB K [("LineError", false), ("BadForm", false), ("Misplaced", false), ("Duplicate", false), ("Unknown", false), ("NotNested", false), ("TooMany", false), ("TooLong", false), ("NoName", false), ("Repeated", false), ("Overfull", false), ("WrongMove", false), ("BadRun", false), ("NoThread", false), ("MustWait", true), ("Refused", false), ("Deadlocked", false), ("NoRequest", false), ("NoContext", false), ("NoRunCycle", false), ("Clash", false), ("NoLockOrder", false)] "MustWait" && (kitB K [("LineError", false), ("BadForm", false), ("Misplaced", false), ("Duplicate", false), ("Unknown", false), ("NotNested", false), ("TooMany", false), ("TooLong", false), ("NoName", false), ("Repeated", false), ("Overfull", false), ("WrongMove", false), ("BadRun", false), ("NoThread", false), ("MustWait", false), ("Refused", true), ("Deadlocked", false), ("NoRequest", false), ("NoContext", false), ("NoRunCycle", false), ("Clash", false), ("NoLockOrder", false)] "Refused" && (kitB K [("LineError", false), ("BadForm", false), ("Misplaced", false), ("Duplicate", false), ("Unknown", false), ("NotNested", false), ("TooMany", false), ("TooLong", false), ("NoName", false), ("Repeated", false), ("Overfull", false), ("WrongMove", false), ("BadRun", false), ("NoThread", false), ("MustWait", false), ("Refused", false), ("Deadlocked", true), ("NoRequest", false), ("NoContext", false), ("NoRunCycle", false), ("Clash", false), ("NoLockOrder", false)] "Deadlocked" && (kitB K [("LineError", false), ("BadForm", false), ("Misplaced", false), ("Duplicate", false), ("Unknown", false), ("NotNested", false), ("TooMany", false), ("TooLong", false), ("NoName", false), ("Repeated", false), ("Overfull", false), ("WrongMove", false), ("BadRun", false), ("NoThread", false), ("MustWait", false), ("Refused", false), ("Deadlocked", false), ("NoRequest", true), ("NoContext", false), ("NoRunCycle", false), ("Clash", false), ("NoLockOrder", false)] "NoRequest" && (kitB K [("LineError", false), ("BadForm", false), ("Misplaced", false), ("Duplicate", false), ("Unknown", false), ("NotNested", false), ("TooMany", false), ("TooLong", false), ("NoName", false), ("Repeated", false), ("Overfull", false), ("WrongMove", false), ("BadRun", false), ("NoThread", false), ("MustWait", false), ("Refused", false), ("Deadlocked", false), ("NoRequest", false), ("NoContext", true), ("NoRunCycle", false), ("Clash", false), ("NoLockOrder", false)] "NoContext" && (kitB K [("LineError", false), ("BadForm", false), ("Misplaced", false), ("Duplicate", false), ("Unknown", false), ("NotNested", false), ("TooMany", false), ("TooLong", false), ("NoName", false), ("Repeated", false), ("Overfull", false), ("WrongMove", false), ("BadRun", false), ("NoThread", false), ("MustWait", false), ("Refused", false), ("Deadlocked", false), ("NoRequest", false), ("NoContext", false), ("NoRunCycle", true), ("Clash", false), ("NoLockOrder", false)] "NoRunCycle" && (kitB K [("LineError", false), ("BadForm", false), ("Misplaced", false), ("Duplicate", false), ("Unknown", false), ("NotNested", false), ("TooMany", false), ("TooLong", false), ("NoName", false), ("Repeated", false), ("Overfull", false), ("WrongMove", false), ("BadRun", false), ("NoThread", false), ("MustWait", false), ("Refused", false), ("Deadlocked", false), ("NoRequest", false), ("NoContext", false), ("NoRunCycle", false), ("Clash", true), ("NoLockOrder", false)] "Clash" && (kitB K [("LineError", false), ("BadForm", false), ("Misplaced", false), ("Duplicate", false), ("Unknown", false), ("NotNested", false), ("TooMany", false), ("TooLong", false), ("NoName", false), ("Repeated", false), ("Overfull", false), ("WrongMove", false), ("BadRun", false), ("NoThread", false), ("MustWait", false), ("Refused", false), ("Deadlocked", false), ("NoRequest", false), ("NoContext", false), ("NoRunCycle", false), ("Clash", false), ("NoLockOrder", true)] "NoLockOrder" && (kitTB K [("LineError", true), ("BadForm", true), ("Misplaced", true), ("Duplicate", true), ("Unknown", true), ("NotNested", true), ("TooMany", true), ("TooLong", true), ("NoName", true), ("Repeated", true), ("Overfull", true), ("WrongMove", true), ("BadRun", true), ("NoThread", true), ("MustWait", true), ("Refused", true), ("Deadlocked", true), ("NoRequest", true), ("NoContext", true), ("NoRunCycle", true), ("Clash", true), ("NoLockOrder", true)] "ValueError" && (exmB K [("LineError", true), ("BadForm", true), ("Misplaced", true), ("Duplicate", true), ("Unknown", true), ("NotNested", true), ("TooMany", true), ("TooLong", true), ("NoName", false), ("Repeated", false), ("Overfull", false), ("WrongMove", false), ("BadRun", false), ("NoThread", false), ("MustWait", false), ("Refused", false), ("Deadlocked", false), ("NoRequest", false), ("NoContext", false), ("NoRunCycle", false), ("Clash", false), ("NoLockOrder", false)] "LineError" && (exmB K [("LineError", false), ("BadForm", false), ("Misplaced", false), ("Duplicate", false), ("Unknown", false), ("NotNested", false), ("TooMany", false), ("TooLong", false), ("NoName", false), ("Repeated", false), ("Overfull", false), ("WrongMove", false), ("BadRun", false), ("NoThread", false), ("MustWait", false), ("Refused", false), ("Deadlocked", false), ("NoRequest", false), ("NoContext", false), ("NoRunCycle", false), ("Clash", false), ("NoLockOrder", true)] "NoLockOrder" && (exmB K [("LineError", false), ("BadForm", false), ("Misplaced", false), ("Duplicate", false), ("Unknown", false), ("NotNested", false), ("TooMany", false), ("TooLong", false), ("NoName", false), ("Repeated", false), ("Overfull", false), ("WrongMove", false), ("BadRun", false), ("NoThread", false), ("MustWait", false), ("Refused", false), ("Deadlocked", false), ("NoRequest", false), ("NoContext", false), ("NoRunCycle", false), ("Clash", true), ("NoLockOrder", false)] "Clash" && (exmB K [("LineError", false), ("BadForm", false), ("Misplaced", false), ("Duplicate", false), ("Unknown", false), ("NotNested", false), ("TooMany", false), ("TooLong", false), ("NoName", false), ("Repeated", false), ("Overfull", false), ("WrongMove", false), ("BadRun", false), ("NoThread", false), ("MustWait", false), ("Refused", false), ("Deadlocked", false), ("NoRequest", false), ("NoContext", true), ("NoRunCycle", false), ("Clash", false), ("NoLockOrder", false)] "NoContext" && (exmB K [("LineError", false), ("BadForm", false), ("Misplaced", false), ("Duplicate", false), ("Unknown", false), ("NotNested", false), ("TooMany", false), ("TooLong", false), ("NoName", false), ("Repeated", false), ("Overfull", false), ("WrongMove", false), ("BadRun", false), ("NoThread", false), ("MustWait", false), ("Refused", false), ("Deadlocked", false), ("NoRequest", true), ("NoContext", false), ("NoRunCycle", false), ("Clash", false), ("NoLockOrder", false)] "NoRequest" && (exmB K [("LineError", false), ("BadForm", false), ("Misplaced", false), ("Duplicate", false), ("Unknown", false), ("NotNested", false), ("TooMany", false), ("TooLong", false), ("NoName", false), ("Repeated", false), ("Overfull", false), ("WrongMove", false), ("BadRun", false), ("NoThread", false), ("MustWait", false), ("Refused", false), ("Deadlocked", true), ("NoRequest", false), ("NoContext", false), ("NoRunCycle", false), ("Clash", false), ("NoLockOrder", false)] "Deadlocked" && (exmB K [("LineError", false), ("BadForm", false), ("Misplaced", false), ("Duplicate", false), ("Unknown", false), ("NotNested", false), ("TooMany", false), ("TooLong", false), ("NoName", false), ("Repeated", false), ("Overfull", false), ("WrongMove", false), ("BadRun", false), ("NoThread", false), ("MustWait", false), ("Refused", true), ("Deadlocked", false), ("NoRequest", false), ("NoContext", false), ("NoRunCycle", false), ("Clash", false), ("NoLockOrder", false)] "Refused" && (exmB K [("LineError", false), ("BadForm", false), ("Misplaced", false), ("Duplicate", false), ("Unknown", false), ("NotNested", false), ("TooMany", false), ("TooLong", false), ("NoName", false), ("Repeated", false), ("Overfull", false), ("WrongMove", false), ("BadRun", false), ("NoThread", false), ("MustWait", true), ("Refused", false), ("Deadlocked", false), ("NoRequest", false), ("NoContext", false), ("NoRunCycle", false), ("Clash", false), ("NoLockOrder", false)] "MustWait" && (exmB K [("LineError", false), ("BadForm", false), ("Misplaced", false), ("Duplicate", false), ("Unknown", false), ("NotNested", false), ("TooMany", false), ("TooLong", false), ("NoName", false), ("Repeated", false), ("Overfull", false), ("WrongMove", false), ("BadRun", false), ("NoThread", true), ("MustWait", false), ("Refused", false), ("Deadlocked", false), ("NoRequest", false), ("NoContext", false), ("NoRunCycle", false), ("Clash", false), ("NoLockOrder", false)] "NoThread" && (exmB K [("LineError", false), ("BadForm", false), ("Misplaced", false), ("Duplicate", false), ("Unknown", false), ("NotNested", false), ("TooMany", false), ("TooLong", false), ("NoName", false), ("Repeated", false), ("Overfull", false), ("WrongMove", false), ("BadRun", true), ("NoThread", false), ("MustWait", false), ("Refused", false), ("Deadlocked", false), ("NoRequest", false), ("NoContext", false), ("NoRunCycle", false), ("Clash", false), ("NoLockOrder", false)] "BadRun" && (exmB K [("LineError", false), ("BadForm", false), ("Misplaced", false), ("Duplicate", false), ("Unknown", false), ("NotNested", false), ("TooMany", false), ("TooLong", false), ("NoName", false), ("Repeated", false), ("Overfull", false), ("WrongMove", true), ("BadRun", false), ("NoThread", false), ("MustWait", false), ("Refused", false), ("Deadlocked", false), ("NoRequest", false), ("NoContext", false), ("NoRunCycle", false), ("Clash", false), ("NoLockOrder", false)] "WrongMove" && (exmB K [("LineError", false), ("BadForm", false), ("Misplaced", false), ("Duplicate", false), ("Unknown", false), ("NotNested", false), ("TooMany", false), ("TooLong", false), ("NoName", false), ("Repeated", true), ("Overfull", false), ("WrongMove", false), ("BadRun", false), ("NoThread", false), ("MustWait", false), ("Refused", false), ("Deadlocked", false), ("NoRequest", false), ("NoContext", false), ("NoRunCycle", false), ("Clash", false), ("NoLockOrder", false)] "Repeated" && (exmB K [("LineError", false), ("BadForm", false), ("Misplaced", false), ("Duplicate", false), ("Unknown", false), ("NotNested", false), ("TooMany", false), ("TooLong", false), ("NoName", true), ("Repeated", false), ("Overfull", false), ("WrongMove", false), ("BadRun", false), ("NoThread", false), ("MustWait", false), ("Refused", false), ("Deadlocked", false), ("NoRequest", false), ("NoContext", false), ("NoRunCycle", false), ("Clash", false), ("NoLockOrder", false)] "NoName" && (iniKB K (He.ga K "LineError") "LineError.__init__" fileS && (iniCB K (He.ga K "LineError") (He.ga K "LineError") ["number"] && (iniFB K "LineError" "LineError" && (iniCB K (He.ga K "LineError") (He.ga K "BadForm") ["number"] && (iniFB K "LineError" "BadForm" && (iniCB K (He.ga K "LineError") (He.ga K "Misplaced") ["number"] && (iniFB K "LineError" "Misplaced" && (iniCB K (He.ga K "LineError") (He.ga K "Duplicate") ["number"] && (iniFB K "LineError" "Duplicate" && (iniCB K (He.ga K "LineError") (He.ga K "Unknown") ["number"] && (iniFB K "LineError" "Unknown" && (iniCB K (He.ga K "LineError") (He.ga K "NotNested") ["number"] && (iniFB K "LineError" "NotNested" && (iniCB K (He.ga K "LineError") (He.ga K "TooMany") ["number"] && (iniFB K "LineError" "TooMany" && (iniCB K (He.ga K "LineError") (He.ga K "TooLong") ["number"] && (iniFB K "LineError" "TooLong" && (iniKB K (He.ga K "NoName") "NoName.__init__" fileS && (iniCB K (He.ga K "NoName") (He.ga K "NoName") ["name"] && (iniFB K "NoName" "NoName" && (iniKB K (He.ga K "Repeated") "Repeated.__init__" fileS && (iniCB K (He.ga K "Repeated") (He.ga K "Repeated") ["name"] && (iniFB K "Repeated" "Repeated" && (iniKB K (He.ga K "WrongMove") "WrongMove.__init__" fileS && (iniCB K (He.ga K "WrongMove") (He.ga K "WrongMove") ["move"] && (iniFB K "WrongMove" "WrongMove" && (iniKB K (He.ga K "BadRun") "BadRun.__init__" fileS && (iniCB K (He.ga K "BadRun") (He.ga K "BadRun") ["at"] && (iniFB K "BadRun" "BadRun" && (iniKB K (He.ga K "NoThread") "NoThread.__init__" fileS && (iniCB K (He.ga K "NoThread") (He.ga K "NoThread") ["thread"] && (iniFB K "NoThread" "NoThread" && (iniKB K (He.ga K "MustWait") "MustWait.__init__" fileS && (iniCB K (He.ga K "MustWait") (He.ga K "MustWait") ["lock", "blocker"] && (iniFB K "MustWait" "MustWait" && (iniKB K (He.ga K "Refused") "Refused.__init__" fileS && (iniCB K (He.ga K "Refused") (He.ga K "Refused") ["at"] && (iniFB K "Refused" "Refused" && (iniKB K (He.ga K "Deadlocked") "Deadlocked.__init__" fileS && (iniCB K (He.ga K "Deadlocked") (He.ga K "Deadlocked") ["cycle"] && (iniFB K "Deadlocked" "Deadlocked" && (iniKB K (He.ga K "NoRequest") "NoRequest.__init__" fileS && (iniCB K (He.ga K "NoRequest") (He.ga K "NoRequest") ["request"] && (iniFB K "NoRequest" "NoRequest" && (iniKB K (He.ga K "NoContext") "NoContext.__init__" fileS && (iniCB K (He.ga K "NoContext") (He.ga K "NoContext") ["context"] && (iniFB K "NoContext" "NoContext" && (iniKB K (He.ga K "Clash") "Clash.__init__" fileS && (iniCB K (He.ga K "Clash") (He.ga K "Clash") ["cycle"] && (iniFB K "Clash" "Clash" && (iniKB K (He.ga K "NoLockOrder") "NoLockOrder.__init__" fileS && (iniCB K (He.ga K "NoLockOrder") (He.ga K "NoLockOrder") ["cycle"] && (iniFB K "NoLockOrder" "NoLockOrder" && (true))))))))))))))))))))))))))))))))))))))))))))))))))))))))))))))))))))))))))))))))))))))))))))))))))))))))))))))))))
abbrev R : PySem.W.OpenRow := PySem.W.OpenLaw.row PySem.Challenge.rw_heldcalls_k76_error_classes
abbrev hk : PySem.W.Hook := hookH 6 fa fn ts pf ex
def ob (s : PySem.W.SharedT) : AlH := obsHG 6 fa fn ts pf ex (HandSHeadRun.getT s)
theorem ob_eq (s : PySem.W.SharedT) : ob s = hk.obs s.abs := obsHG_eq (HandSHeadRun.getT_eq s)
def loose : List PySem.Str := (["HeldError", "LineError", "BadForm", "Misplaced", "Duplicate", "Unknown", "NotNested", "TooMany", "TooLong", "NoName", "Repeated", "Overfull", "WrongMove", "BadRun", "NoThread", "MustWait", "Refused", "Deadlocked", "NoRequest", "NoContext"] : List PySem.Str) ++ (["NoRunCycle", "Clash", "NoLockOrder", "_law_numbers", "_law_names", "_law_leaf", "_law_same", "_law_raise", "_law_kinds", "_law_line_field", "_law_fields"] : List PySem.Str)
set_option maxHeartbeats 0
theorem run (w : World) : HandSHeadRun.RunEq R (PySem.W.view R.prog [33]) hk ob 12000 loose w := by
  refine PySem.W.byRow2 "special-get-raises" (P := fun w => HandSHeadRun.RunEq R (PySem.W.view R.prog [33]) hk ob 12000 loose w) ?_ ?_ w
  · intro w os
    kernel_rfl
  · intro w os
    kernel_rfl
end Z

set_option maxHeartbeats 4000000
/-! list(zip(a, b)): the zip's next pair while the last one is still held. -/
namespace PySem
open Sem (wp)
namespace ZL
open PySem.F
abbrev Zp (h : Heap) (z TI TO : Addr) (f0 f1 : Value) : Prop := h.get? z = some { cls := .type "zip", data := .fields #[f0, f1, .bool false, .ref TI, .ref TO] }
variable {prog : Program} {w : World} {A : Around} {E : Value → Shared → Prop} {s : Shared}
theorem free_no {z TI TO T : Addr} {oT : Obj} {fl : Bool} {Q : Bool → Shared → Prop} (hz : Zp s.heap z TI TO (rawInt T) (.bool fl)) (hT : s.heap.get? T = some oT)
    (hQ : ∀ h', Zp h' z TI TO (rawInt T) (.bool true) → h'.objs.size = s.heap.objs.size → (∀ c o, c ≠ z → s.heap.get? c = some o → h'.get? c = some o) → Q false { s with heap := h' }) : wpAny (model prog w) A (Builtin.SmallTypes.ownedTupleIsFree (.ref z)) Q E s := by
  unfold Builtin.SmallTypes.ownedTupleIsFree
  refine wpAny_bind (wpAny_field hz rfl (x := rawInt T) rfl ?_)
  refine wpAny_bind (W.kdx_alive hT ?_)
  rw [if_neg (by simp)]
  refine wpAny_bind (wpAny_field hz rfl (x := .bool fl) rfl ?_)
  cases fl with
  | true =>
    rw [if_neg (by decide)]
    exact wpAny_bind (wpAny_pure (wpAny_pure (hQ s.heap hz rfl fun _ _ _ e => e)))
  | false =>
    rw [if_pos (by decide)]
    refine wpAny_bind (wpAny_setField_rec hz (by simp) fun h₁ hz₁ hs₁ => ?_)
    exact wpAny_pure (hQ h₁ hz₁ hs₁.1 fun c o ne e => hs₁.extBut _ _ ne e)
theorem next_out {z TI TO i1 i2 l1 l2 T : Addr} {k1 k2 : Nat} {xs ys : Array Value} {x y : Value} {oT : Obj} {fl : Bool} {Q : Value → Shared → Prop} (D : ZipApart z TI TO i1 i2 l1 l2)
    (hz : Zp s.heap z TI TO (rawInt T) (.bool fl)) (hT : s.heap.get? T = some oT) (hTI : IsPair s.heap TI (.ref i1) (.ref i2))
    (h1 : s.heap.IsListIter i1 l1 k1) (h2 : s.heap.IsListIter i2 l2 k2) (hl1 : s.heap.IsList l1 xs) (hl2 : s.heap.IsList l2 ys) (hx : xs[k1]? = some x) (hy : ys[k2]? = some y) (hTz : T ≠ z)
    (hQ : ∀ h', Zp h' z TI TO (rawInt T) (.bool true) → h'.IsListIter i1 l1 (k1 + 1) → h'.IsListIter i2 l2 (k2 + 1) → IsPair h' s.heap.objs.size x y → h'.objs.size = s.heap.objs.size + 1 →
      (∀ c o, c ≠ z → c ≠ i1 → c ≠ i2 → s.heap.get? c = some o → h'.get? c = some o) → Q (.ref s.heap.objs.size) { s with heap := h' }) :
    wpAny (model prog w) A (Builtin.«zip.__next__» ⟨[.ref z], []⟩) (fun fin s' => ∃ v, fin = .done (.ret v) ∧ Q v s') E s := by
  show wpAny _ _ (field (.ref z) 2 >>= _) _ _ _
  refine wpAny_bind (wpAny_field hz rfl (x := .bool false) rfl ?_)
  show wpAny _ _ (field (.ref z) 3 >>= _) _ _ _
  refine wpAny_bind (wpAny_field hz rfl (x := .ref TI) rfl ?_)
  refine wpAny_bind (wpAny_seqItems hTI rfl ?_)
  show wpAny _ _ (Builtin.SmallTypes.ownedTupleIsFree (.ref z) >>= _) _ _ _
  refine wpAny_bind (free_no hz hT fun h₀ hz₀ hn₀ hs₀ => ?_)
  rw [if_neg (by decide)]
  show wpAny _ _ (forIn #[Value.ref i1, Value.ref i2] ((none : Option Fin), (#[] : Array Value)) _ >>= _) _ _ _
  refine wpAny_bind ?_
  rw [← Array.forIn_toList]
  simp only [List.forIn_cons, List.forIn_nil]
  refine wpAny_bind (wpAny_bind (wpAny_holding ?_))
  show wpAny _ _ (Builtin.SmallTypes.nextOf (.ref i1) >>= _) _ _ _
  have h1₀ : h₀.IsListIter i1 l1 k1 := h1.at fun o e => hs₀ _ _ D.i1z e
  have hl1₀ : h₀.IsList l1 xs := let ⟨o, e, q⟩ := hl1; ⟨o, hs₀ _ _ D.l1z e, q⟩
  refine wpAny_bind (wpAny_nextOf_list_item h1₀ hl1₀ hx fun h₂ h1₂ hs₂ => wpAny_pure ?_)
  refine wpAny_pure ?_
  refine wpAny_bind (wpAny_bind (wpAny_holding ?_))
  show wpAny _ _ (Builtin.SmallTypes.nextOf (.ref i2) >>= _) _ _ _
  have h2₂ : h₂.IsListIter i2 l2 k2 := (h2.at fun o e => hs₀ _ _ D.i2z e).extBut hs₂.extBut D.i12.symm
  have hl2₂ : h₂.IsList l2 ys := (show h₀.IsList l2 ys from let ⟨o, e, q⟩ := hl2; ⟨o, hs₀ _ _ D.l2z e, q⟩).extBut hs₂.extBut D.l2i1
  refine wpAny_bind (wpAny_nextOf_list_item h2₂ hl2₂ hy fun h₄ h2₄ hs₄ => wpAny_pure ?_)
  refine wpAny_pure (wpAny_pure ?_)
  refine wpAny_bind (wpAny_newTuple (hsz := by show 2 ≤ sizeLine; decide) ?_)
  have hsz : h₄.objs.size = s.heap.objs.size := by rw [hs₄.1, hs₂.1, hn₀]
  refine wpAny_pure ⟨_, rfl, ?_⟩
  show Q (.ref h₄.objs.size) { s with heap := h₄.push { cls := .type "tuple", data := .seq #[x, y] } }
  have eT : IsPair (h₄.push { cls := .type "tuple", data := .seq #[x, y] }) h₄.objs.size x y := Heap.get?_push_size _ rfl
  have en : (h₄.push { cls := .type "tuple", data := .seq #[x, y] }).objs.size = h₄.objs.size + 1 := Heap.size_push _ _
  have ez : Zp h₄ z TI TO (rawInt T) (.bool true) := hs₄.extBut _ _ D.i2z.symm (hs₂.extBut _ _ D.i1z.symm hz₀)
  have up : ∀ c o, h₄.get? c = some o → (h₄.push { cls := .type "tuple", data := .seq #[x, y] }).get? c = some o := fun c o e => Heap.get?_push_of_some _ e
  rw [hsz] at eT en ⊢
  exact hQ _ (up _ _ ez) ((h1₂.extBut hs₄.extBut D.i12).at fun o e => up _ o e) (h2₄.at fun o e => up _ o e) eT en fun c o c1 c2 c3 e => up _ _ (hs₄.extBut _ _ c3 (hs₂.extBut _ _ c2 (hs₀ _ _ c1 e)))
theorem next_end {z TI TO i1 i2 l1 l2 T : Addr} {k1 k2 : Nat} {xs ys : Array Value} {oT : Obj} {fl : Bool} {Q : Fin → Shared → Prop} (hh : A.handled = none) (D : ZipApart z TI TO i1 i2 l1 l2)
    (hz : Zp s.heap z TI TO (rawInt T) (.bool fl)) (hT : s.heap.get? T = some oT) (hTI : IsPair s.heap TI (.ref i1) (.ref i2))
    (h1 : s.heap.IsListIter i1 l1 k1) (h2 : s.heap.IsListIter i2 l2 k2) (hl1 : s.heap.IsList l1 xs) (hl2 : s.heap.IsList l2 ys) (hend : xs[k1]? = none ∨ ys[k2]? = none)
    (hE : ∀ h' e, (∀ c o, c ≠ z → c ≠ i1 → c ≠ i2 → s.heap.get? c = some o → h'.get? c = some o) → (∃ o, h'.get? e = some o ∧ o.cls = .type "StopIteration") → E (.ref e) { s with heap := h' }) :
    wpAny (model prog w) A (Builtin.«zip.__next__» ⟨[.ref z], []⟩) Q E s := by
  show wpAny _ _ (field (.ref z) 2 >>= _) _ _ _
  refine wpAny_bind (wpAny_field hz rfl (x := .bool false) rfl ?_)
  show wpAny _ _ (field (.ref z) 3 >>= _) _ _ _
  refine wpAny_bind (wpAny_field hz rfl (x := .ref TI) rfl ?_)
  refine wpAny_bind (wpAny_seqItems hTI rfl ?_)
  show wpAny _ _ (Builtin.SmallTypes.ownedTupleIsFree (.ref z) >>= _) _ _ _
  refine wpAny_bind (free_no hz hT fun h₀ hz₀ hn₀ hs₀ => ?_)
  rw [if_neg (by decide)]
  show wpAny _ _ (forIn #[Value.ref i1, Value.ref i2] ((none : Option Fin), (#[] : Array Value)) _ >>= _) _ _ _
  refine wpAny_bind ?_
  rw [← Array.forIn_toList]
  simp only [List.forIn_cons, List.forIn_nil]
  refine wpAny_bind (wpAny_bind (wpAny_holding ?_))
  show wpAny _ _ (Builtin.SmallTypes.nextOf (.ref i1) >>= _) _ _ _
  have h1₀ : h₀.IsListIter i1 l1 k1 := h1.at fun o e => hs₀ _ _ D.i1z e
  have hl1₀ : h₀.IsList l1 xs := let ⟨o, e, q⟩ := hl1; ⟨o, hs₀ _ _ D.l1z e, q⟩
  cases hx : xs[k1]? with
  | none =>
    exact wpAny_bind (wpAny_nextOf_list_end hh h1₀ hl1₀ hx fun h₂ e hs₂ he => hE h₂ e (fun c o c1 c3 _ x => hs₂ _ _ c3 (hs₀ _ _ c1 x)) he)
  | some x =>
    have hy : ys[k2]? = none := by rcases hend with h | h; rw [hx] at h; cases h; exact h
    refine wpAny_bind (wpAny_nextOf_list_item h1₀ hl1₀ hx fun h₂ h1₂ hs₂ => wpAny_pure ?_)
    refine wpAny_pure ?_
    refine wpAny_bind (wpAny_bind (wpAny_holding ?_))
    show wpAny _ _ (Builtin.SmallTypes.nextOf (.ref i2) >>= _) _ _ _
    have h2₂ : h₂.IsListIter i2 l2 k2 := (h2.at fun o e => hs₀ _ _ D.i2z e).extBut hs₂.extBut D.i12.symm
    have hl2₂ : h₂.IsList l2 ys := (show h₀.IsList l2 ys from let ⟨o, e, q⟩ := hl2; ⟨o, hs₀ _ _ D.l2z e, q⟩).extBut hs₂.extBut D.l2i1
    exact wpAny_bind (wpAny_nextOf_list_end hh h2₂ hl2₂ hy fun h₄ e hs₄ he => hE h₄ e (fun c o c1 c3 c4 x => hs₄ _ _ c4 (hs₂.extBut _ _ c3 (hs₀ _ _ c1 x))) he)
theorem py_out {z TI TO i1 i2 l1 l2 T : Addr} {k1 k2 : Nat} {xs ys : Array Value} {x y : Value} {oT : Obj} {fl : Bool} {Q : Option Value → Shared → Prop} (D : ZipApart z TI TO i1 i2 l1 l2)
    (hz : Zp s.heap z TI TO (rawInt T) (.bool fl)) (hT : s.heap.get? T = some oT) (hTI : IsPair s.heap TI (.ref i1) (.ref i2))
    (h1 : s.heap.IsListIter i1 l1 k1) (h2 : s.heap.IsListIter i2 l2 k2) (hl1 : s.heap.IsList l1 xs) (hl2 : s.heap.IsList l2 ys) (hx : xs[k1]? = some x) (hy : ys[k2]? = some y) (hTz : T ≠ z)
    (hQ : ∀ h', Zp h' z TI TO (rawInt T) (.bool true) → h'.IsListIter i1 l1 (k1 + 1) → h'.IsListIter i2 l2 (k2 + 1) → IsPair h' s.heap.objs.size x y → h'.objs.size = s.heap.objs.size + 1 →
      (∀ c o, c ≠ z → c ≠ i1 → c ≠ i2 → s.heap.get? c = some o → h'.get? c = some o) → Q (some (.ref s.heap.objs.size)) { s with heap := h' }) : wpAny (model prog w) A (pyNext (.ref z)) Q E s := by
  have hTy : s.TypeIs (.ref z) "zip" := ⟨_, hz, rfl⟩
  unfold pyNext
  exact wpAny_bind (wpAny_attempt (wpAny_callSpecial?_slot (name := Str.ofString "__next__") hTy F.slot_zip_next
    (wpAny_call_entry F.slot_zip_next hTy F.entry_zip_next
      (next_out D hz hT hTI h1 h2 hl1 hl2 hx hy hTz fun h' a1 a2 a3 a4 a5 a6 => wpAny_pure (hQ h' a1 a2 a3 a4 a5 a6)) (F.args_zip_next_1 _))))
theorem py_end {z TI TO i1 i2 l1 l2 T : Addr} {k1 k2 : Nat} {xs ys : Array Value} {oT : Obj} {fl : Bool} {Q : Option Value → Shared → Prop} (hh : A.handled = none) (D : ZipApart z TI TO i1 i2 l1 l2)
    (hz : Zp s.heap z TI TO (rawInt T) (.bool fl)) (hT : s.heap.get? T = some oT) (hTI : IsPair s.heap TI (.ref i1) (.ref i2))
    (h1 : s.heap.IsListIter i1 l1 k1) (h2 : s.heap.IsListIter i2 l2 k2) (hl1 : s.heap.IsList l1 xs) (hl2 : s.heap.IsList l2 ys) (hend : xs[k1]? = none ∨ ys[k2]? = none)
    (hQ : ∀ h', (∀ c o, c ≠ z → c ≠ i1 → c ≠ i2 → s.heap.get? c = some o → h'.get? c = some o) → Q none { s with heap := h' }) : wpAny (model prog w) A (pyNext (.ref z)) Q E s := by
  have hTy : s.TypeIs (.ref z) "zip" := ⟨_, hz, rfl⟩
  unfold pyNext
  refine wpAny_bind (wpAny_attempt (wpAny_callSpecial?_slot (name := Str.ofString "__next__") hTy F.slot_zip_next
    (wpAny_call_entry F.slot_zip_next hTy F.entry_zip_next (next_end hh D hz hT hTI h1 h2 hl1 hl2 hend fun h' e hk he => ?_) (F.args_zip_next_1 _))))
  obtain ⟨o, ho, hc⟩ := he
  refine wpAny_bind (wpAny_isInstance (T := "StopIteration") (b := true) ⟨o, ho, hc⟩ isSubtype_stop ?_)
  exact wpAny_pure (hQ _ hk)
/-- the zip of two lists behind k turns -/
structure ZSt (h : Heap) (z TI TO i1 i2 l1 l2 : Addr) (k : Nat) : Prop where
  rec_ : Zp h z TI TO .none (.bool false) ∨ ∃ (T : Addr) (oT : Obj) (fl : Bool), Zp h z TI TO (rawInt T) (.bool fl) ∧ h.get? T = some oT ∧ T ≠ z
  ti : IsPair h TI (.ref i1) (.ref i2)
  to_ : ∃ a b, IsPair h TO a b
  h1 : h.IsListIter i1 l1 k
  h2 : h.IsListIter i2 l2 k
theorem z_item {z TI TO i1 i2 l1 l2 : Addr} {k : Nat} {xs ys : Array Value} {x y : Value} {Q : Option Value → Shared → Prop} (D : ZipApart z TI TO i1 i2 l1 l2) (st : ZSt s.heap z TI TO i1 i2 l1 l2 k)
    (hl1 : s.heap.IsList l1 xs) (hl2 : s.heap.IsList l2 ys) (hx : xs[k]? = some x) (hy : ys[k]? = some y)
    (hQ : ∀ h', ZSt h' z TI TO i1 i2 l1 l2 (k + 1) → IsPair h' s.heap.objs.size x y → h'.objs.size = s.heap.objs.size + 1 →
      (∀ c o, c ≠ z → c ≠ TO → c ≠ i1 → c ≠ i2 → s.heap.get? c = some o → h'.get? c = some o) → Q (some (.ref s.heap.objs.size)) { s with heap := h' }) : wpAny (model prog w) A (pyNext (.ref z)) Q E s := by
  obtain ⟨hr, hti, ⟨a, b, hto⟩, h1, h2⟩ := st
  rcases hr with hz | ⟨T, oT, fl, hz, hT, hTz⟩
  · have hzl : z < s.heap.objs.size := Heap.lt_size hz
    refine wpAny_pyNext_zip_item D hz hti hto h1 h2 hl1 hl2 hx hy fun h' a1 a2 a3 a4 a5 a6 a7 => hQ h' ⟨.inr ⟨_, _, false, a1, a5, Nat.ne_of_gt hzl⟩, a7 _ _ D.TIz D.TITO D.TIi1 D.TIi2 hti, ⟨_, _, a2⟩, a3, a4⟩ a5 a6 a7
  · refine py_out D hz hT hti h1 h2 hl1 hl2 hx hy hTz fun h' a1 a3 a4 a5 a6 a7 => ?_
    have hT' : ∃ o, h'.get? T = some o := by
      by_cases q1 : T = i1
      · subst q1; obtain ⟨o, e, _⟩ := a3; exact ⟨o, e⟩
      · by_cases q2 : T = i2
        · subst q2; obtain ⟨o, e, _⟩ := a4; exact ⟨o, e⟩
        · exact ⟨_, a7 _ _ hTz q1 q2 hT⟩
    obtain ⟨o, eo⟩ := hT'
    exact hQ h' ⟨.inr ⟨T, o, true, a1, eo, hTz⟩, a7 _ _ D.TIz D.TIi1 D.TIi2 hti, ⟨a, b, a7 _ _ D.TOz D.TOi1 D.TOi2 hto⟩, a3, a4⟩ a5 a6 fun c o c1 c2 c3 c4 e => a7 c o c1 c3 c4 e
theorem z_end {z TI TO i1 i2 l1 l2 : Addr} {k : Nat} {xs ys : Array Value} {Q : Option Value → Shared → Prop} (hh : A.handled = none) (D : ZipApart z TI TO i1 i2 l1 l2) (st : ZSt s.heap z TI TO i1 i2 l1 l2 k)
    (hl1 : s.heap.IsList l1 xs) (hl2 : s.heap.IsList l2 ys) (hend : xs[k]? = none ∨ ys[k]? = none)
    (hQ : ∀ h', (∀ c o, c ≠ z → c ≠ TO → c ≠ i1 → c ≠ i2 → s.heap.get? c = some o → h'.get? c = some o) → Q none { s with heap := h' }) : wpAny (model prog w) A (pyNext (.ref z)) Q E s := by
  obtain ⟨hr, hti, ⟨a, b, hto⟩, h1, h2⟩ := st
  rcases hr with hz | ⟨T, oT, fl, hz, hT, hTz⟩
  · exact wpAny_pyNext_zip_end hh D hz hti hto h1 h2 hl1 hl2 hend hQ
  · exact py_end hh D hz hT hti h1 h2 hl1 hl2 hend fun h' k => hQ h' fun c o c1 _ c3 c4 e => k c o c1 c3 c4 e
theorem ZSt.keep {h h' : Heap} {z TI TO i1 i2 l1 l2 S : Addr} {k : Nat} (st : ZSt h z TI TO i1 i2 l1 l2 k) (up : ∀ b o, b ≠ S → h.get? b = some o → h'.get? b = some o) (n1 : z ≠ S) (n2 : TI ≠ S) (n3 : TO ≠ S) (n4 : i1 ≠ S) (n5 : i2 ≠ S) (hS : ∃ o, h'.get? S = some o) : ZSt h' z TI TO i1 i2 l1 l2 k := by
  obtain ⟨hr, hti, ⟨a, b, hto⟩, h1, h2⟩ := st
  refine ⟨?_, up _ _ n2 hti, ⟨a, b, up _ _ n3 hto⟩, h1.at fun o e => up _ o n4 e, h2.at fun o e => up _ o n5 e⟩
  rcases hr with hz | ⟨T, oT, fl, hz, hT, hTz⟩
  · exact .inl (up _ _ n1 hz)
  · by_cases q : T = S
    · subst q
      obtain ⟨o, e⟩ := hS
      exact .inr ⟨T, o, fl, up _ _ n1 hz, e, hTz⟩
    · exact .inr ⟨T, oT, fl, up _ _ n1 hz, up _ _ q hT, hTz⟩
/-- what the new pairs are -/
structure Prs (xs ys : Array Value) (B0 : Nat) (h : Heap) (as : List Addr) : Prop where
  rise : as.Pairwise (· < ·)
  above : ∀ a ∈ as, B0 ≤ a
  pairs : ∀ (j : Nat) (a : Addr), as[j]? = some a → ∃ x y, xs[j]? = some x ∧ ys[j]? = some y ∧ IsPair h a x y
theorem z_loop {z TI TO i1 i2 l1 l2 S : Addr} {xs ys : Array Value} {B0 n : Nat} {R : Result → Shared → Prop} (hh : A.handled = none) (D : ZipApart z TI TO i1 i2 l1 l2) (n1 : z ≠ S) (n2 : TI ≠ S) (n3 : TO ≠ S) (n4 : i1 ≠ S) (n5 : i2 ≠ S) (n6 : l1 ≠ S) (n7 : l2 ≠ S)
    (bz : z < B0) (bTO : TO < B0) (bi1 : i1 < B0) (bi2 : i2 < B0) (bS : S < B0) (hn : n = min xs.size ys.size) (hsl : n ≤ sizeLine) (res : Value) {h₁ : Heap}
    (hR : ∀ h' tk acc c as, (∀ b o, b ≠ S → b ≠ z → b ≠ TO → b ≠ i1 → b ≠ i2 → h₁.get? b = some o → h'.get? b = some o) → h'.get? S = some { cls := .type "list", dict := none, data := .seq acc c, slots := #[] } → as.length = n → Prs xs ys B0 h' as →
      acc.toList = as.map Value.ref → R (.ok (.ret res)) { s with heap := h', toks := tk }) :
    ∀ (k i : Nat) (h : Heap) (tk c : Nat) (acc : Array Value) (as : List Addr), n - i = k → i ≤ n → ZSt h z TI TO i1 i2 l1 l2 i → h.IsList l1 xs → h.IsList l2 ys → (∀ b o, b ≠ S → b ≠ z → b ≠ TO → b ≠ i1 → b ≠ i2 → h₁.get? b = some o → h.get? b = some o) →
      h.get? S = some { cls := .type "list", dict := none, data := .seq acc c, slots := #[] } → acc.toList = as.map Value.ref → as.length = i → Prs xs ys B0 h as → B0 ≤ h.objs.size →
      codeAny (model prog w) A (.builtin "list.extend.loop" ⟨[.ref S, .ref z, res], []⟩) R { s with heap := h, toks := tk } := by
  intro k
  induction k with
  | zero =>
    intro i h tk c acc as hk hi hst hL1 hL2 hkeep hS hacc hal hG hIs
    have hin : i = n := by omega
    refine codeAny_builtin PySem.F.entry_extend_loop ?_
    rw [Around.under_plainId PySem.F.plain_extend_loop _]
    show wpAny _ A.in1 (pyNext (.ref z) >>= _) _ _ _
    have hend : xs[i]? = none ∨ ys[i]? = none := by
      rcases Nat.le_total xs.size ys.size with q | q
      · exact .inl (Array.getElem?_eq_none (by omega))
      · exact .inr (Array.getElem?_eq_none (by omega))
    refine wpAny_bind (z_end (s := { s with heap := h, toks := tk }) (A := A.in1) hh D hst hL1 hL2 hend fun h' he => ?_)
    refine wpAny_pure (hR h' tk acc c as (fun b o c0 c1 c2 c3 c4 e => he b o c1 c2 c3 c4 (hkeep b o c0 c1 c2 c3 c4 e)) (he S _ n1.symm n3.symm n4.symm n5.symm hS) (by omega) ⟨hG.rise, hG.above, fun j a hj => ?_⟩ hacc)
    obtain ⟨x, y, e1, e2, e3⟩ := hG.pairs j a hj
    have ha := hG.above a (List.mem_of_getElem? hj)
    exact ⟨x, y, e1, e2, he a _ (Nat.ne_of_gt (Nat.lt_of_lt_of_le bz ha)) (Nat.ne_of_gt (Nat.lt_of_lt_of_le bTO ha)) (Nat.ne_of_gt (Nat.lt_of_lt_of_le bi1 ha)) (Nat.ne_of_gt (Nat.lt_of_lt_of_le bi2 ha)) e3⟩
  | succ k ih =>
    intro i h tk c acc as hk hi hst hL1 hL2 hkeep hS hacc hal hG hIs
    have hxl : i < xs.size := by omega
    have hyl : i < ys.size := by omega
    obtain ⟨x, hx⟩ : ∃ p, xs[i]? = some p := ⟨xs[i], Array.getElem?_eq_getElem hxl⟩
    obtain ⟨y, hy⟩ : ∃ p, ys[i]? = some p := ⟨ys[i], Array.getElem?_eq_getElem hyl⟩
    have hsz : acc.size = i := by rw [← Array.length_toList, hacc, List.length_map, hal]
    refine codeAny_builtin PySem.F.entry_extend_loop ?_
    rw [Around.under_plainId PySem.F.plain_extend_loop _]
    show wpAny _ A.in1 (pyNext (.ref z) >>= _) _ _ _
    refine wpAny_bind (z_item (s := { s with heap := h, toks := tk }) D hst hL1 hL2 hx hy fun h' hst' ht hz hkp => ?_)
    dsimp only at ht hz hkp ⊢
    have hS' := hkp S _ n1.symm n3.symm n4.symm n5.symm hS
    have up : ∀ b o, b ≠ S → h'.get? b = some o → (h'.update S (Obj.mapSeq (·.push (Value.ref h.objs.size)))).get? b = some o := fun b o hb e => (Heap.get?_update_other _ _ (Ne.symm hb)).trans e
    have hSl : S < h.objs.size := Heap.lt_size hS
    have hSn := Heap.get?_update_self (Obj.mapSeq (·.push (Value.ref h.objs.size))) hS' rfl
    have tt : (h'.update S (Obj.mapSeq (·.push (Value.ref h.objs.size)))).get? h.objs.size = _ := up _ _ (Nat.ne_of_gt hSl) ht
    show wpAny _ A.in1 (updateSeq S (·.push (Value.ref h.objs.size)) >>= _) _ _ _
    refine wpAny_bind ?_
    refine wpAny_updateSeq hS' rfl (wpAny_pure ⟨plainId_quiet PySem.F.plain_extend_loop _, ih (i + 1) _ tk _ (acc.push (Value.ref h.objs.size)) (as ++ [h.objs.size]) (by omega) (by omega) (hst'.keep up n1 n2 n3 n4 n5 ⟨_, hSn⟩)
      (let ⟨o, e, q⟩ := hL1; ⟨o, up _ _ n6 (hkp _ _ D.l1z D.l1TO D.l1i1 D.l1i2 e), q⟩) (let ⟨o, e, q⟩ := hL2; ⟨o, up _ _ n7 (hkp _ _ D.l2z D.l2TO D.l2i1 D.l2i2 e), q⟩)
      (fun b o c0 c1 c2 c3 c4 e => up b o c0 (hkp b o c1 c2 c3 c4 (hkeep b o c0 c1 c2 c3 c4 e))) hSn (by rw [Array.toList_push, hacc, List.map_append]; rfl) (by rw [List.length_append, hal]; rfl) ⟨?_, ?_, ?_⟩ (Nat.le_of_lt (Nat.lt_of_le_of_lt hIs (Heap.lt_size tt)))⟩) (by rw [hsz]; omega) (by show (acc.push (Value.ref h.objs.size)).size ≤ sizeLine + 1; rw [Array.size_push, hsz]; omega)
    · refine List.pairwise_append.mpr ⟨hG.rise, List.pairwise_singleton _ _, fun a ha b hb => ?_⟩
      rw [List.mem_singleton.mp hb]
      obtain ⟨j, hj⟩ := List.mem_iff_getElem?.mp ha
      obtain ⟨_, _, _, _, e⟩ := hG.pairs j a hj
      exact Heap.lt_size e
    · intro a ha
      rcases List.mem_append.mp ha with ha | ha
      · exact hG.above a ha
      · rw [List.mem_singleton.mp ha]; exact hIs
    · intro j b hj
      rcases Nat.lt_trichotomy j as.length with h1 | h1 | h1
      · rw [List.getElem?_append_left h1] at hj
        obtain ⟨x', y', e1, e2, e3⟩ := hG.pairs j b hj
        have hb := hG.above b (List.mem_of_getElem? hj)
        have ne : ∀ q, q < B0 → b ≠ q := fun q hq => Nat.ne_of_gt (Nat.lt_of_lt_of_le hq hb)
        exact ⟨x', y', e1, e2, up b _ (ne _ bS) (hkp b _ (ne _ bz) (ne _ bTO) (ne _ bi1) (ne _ bi2) e3)⟩
      · subst h1
        have hb : h.objs.size = b := by simpa using hj
        subst hb
        exact ⟨x, y, by rw [hal]; exact hx, by rw [hal]; exact hy, tt⟩
      · have hnone : (as ++ [h.objs.size])[j]? = none := List.getElem?_eq_none (by rw [List.length_append, List.length_singleton]; omega)
        rw [hnone] at hj; cases hj
theorem zip_no_len : typeLookup (.type "zip") "__len__" = pure none := by rw [typeLookup_type, builtinLookup_eq_fast]; kernel_rfl
theorem zip_no_hint : typeLookup (.type "zip") "__length_hint__" = pure none := by rw [typeLookup_type, builtinLookup_eq_fast]; kernel_rfl
theorem z_hint {z : Addr} (hT : s.TypeIs (.ref z) "zip") {Q : Bool → Shared → Prop} (h : Q true s) : wpAny (model prog w) A (Builtin.List.listLengthHint (.ref z)) Q E s := by
  unfold Builtin.List.listLengthHint
  refine wpAny_bind (wpAny_specialOf hT zip_no_len ?_)
  wp_delta
  refine wpAny_bind ?_
  refine wpAny_specialOf hT zip_no_hint ?_
  exact wpAny_pure h
theorem ZSt.zip {h : Heap} {z TI TO i1 i2 l1 l2 : Addr} {k : Nat} (st : ZSt h z TI TO i1 i2 l1 l2 k) : ∃ f0 f1, Zp h z TI TO f0 f1 := by
  rcases st.rec_ with e | ⟨T, _, fl, e, _⟩
  · exact ⟨_, _, e⟩
  · exact ⟨_, _, e⟩
theorem z_extend {z TI TO i1 i2 l1 l2 S : Addr} {xs ys : Array Value} {n : Nat} {R : Result → Shared → Prop} (hh : A.handled = none) (D : ZipApart z TI TO i1 i2 l1 l2) (n1 : z ≠ S) (n2 : TI ≠ S) (n3 : TO ≠ S) (n4 : i1 ≠ S) (n5 : i2 ≠ S) (n6 : l1 ≠ S) (n7 : l2 ≠ S)
    (hn : n = min xs.size ys.size) (hsl : n ≤ sizeLine) (res : Value) (c₀ : Nat) (hz : Zp s.heap z TI TO .none (.bool false)) (hti : IsPair s.heap TI (.ref i1) (.ref i2)) (hto : ∃ a b, IsPair s.heap TO a b) (h1 : s.heap.IsListIter i1 l1 0) (h2 : s.heap.IsListIter i2 l2 0)
    (hL1 : s.heap.IsList l1 xs) (hL2 : s.heap.IsList l2 ys) (hS : s.heap.get? S = some { cls := .type "list", data := .seq #[] c₀ })
    (hR : ∀ h' tk acc c as, (∀ b o, b ≠ S → b ≠ z → b ≠ TO → b ≠ i1 → b ≠ i2 → s.heap.get? b = some o → h'.get? b = some o) → h'.get? S = some { cls := .type "list", dict := none, data := .seq acc c, slots := #[] } → as.length = n → Prs xs ys s.heap.objs.size h' as →
      acc.toList = as.map Value.ref → R (.ok (.ret res)) { s with heap := h', toks := tk }) :
    wpAny (model prog w) A.in1 (Builtin.List.listExtendWith (.ref S) (.ref z) res)
      (fun fin s' => match fin with | .done f => R (.ok f) s' | .again c' => c'.quiet = true ∧ codeAny (model prog w) A c' R s') (fun e s' => R (.error e) s') s := by
  have st : ZSt s.heap z TI TO i1 i2 l1 l2 0 := ⟨.inl hz, hti, hto, h1, h2⟩
  have hTy : s.TypeIs (.ref z) "zip" := ⟨_, hz, rfl⟩
  have key : ∀ (h : Heap) (c₁ tk : Nat), (∀ b o, b ≠ S → s.heap.get? b = some o → h.get? b = some o) → h.objs.size = s.heap.objs.size →
      h.get? S = some { cls := .type "list", data := .seq #[] c₁ } → codeAny (model prog w) A (.builtin "list.extend.loop" ⟨[.ref S, .ref z, res], []⟩) R { s with heap := h, toks := tk } := by
    intro h c₁ tk hk hsz hS₁
    refine z_loop (s := s) (B0 := s.heap.objs.size) (h₁ := s.heap) hh D n1 n2 n3 n4 n5 n6 n7 (Heap.lt_size hz) (let ⟨_, _, e⟩ := hto; Heap.lt_size e) (let ⟨_, e, _⟩ := h1; Heap.lt_size e) (let ⟨_, e, _⟩ := h2; Heap.lt_size e) (Heap.lt_size hS) hn hsl res hR
      n 0 h tk c₁ #[] [] (Nat.sub_zero _) (Nat.zero_le _) (st.keep hk n1 n2 n3 n4 n5 ⟨_, hS₁⟩) (let ⟨o, e, q⟩ := hL1; ⟨o, hk _ _ n6 e, q⟩) (let ⟨o, e, q⟩ := hL2; ⟨o, hk _ _ n7 e, q⟩) (fun b o hb _ _ _ _ e => hk b o hb e) hS₁ rfl rfl
      ⟨List.Pairwise.nil, (fun _ ha => nomatch ha), (fun j a hj => by simp at hj)⟩ (Nat.le_of_eq hsz.symm)
  unfold Builtin.List.listExtendWith
  refine wpAny_bind (wpAny_typeOf (T := "zip") hTy ?_)
  have g1 : Builtin.List.listSameRef (.ref S) (.ref z) = false := by simp [Builtin.List.listSameRef, n1.symm]
  have g2 : (Value.type "zip" == Value.type "list") = false := by decide
  have g3 : (Value.type "zip" == Value.type "tuple") = false := by decide
  simp only [g1, g2, g3, Bool.or_false, Bool.false_eq_true, if_false]
  refine wpAny_bind (wpAny_pyIter_zip hz ?_)
  refine wpAny_bind (wpAny_holding (z_hint hTy ?_))
  refine wpAny_ite_split (fun _ => ?_) (fun _ => wpAny_pure ⟨plainId_quiet PySem.F.plain_extend_loop _, key _ c₀ _ (fun b o _ e => e) rfl hS⟩)
  refine wpAny_bind (wpAny_rule ?_)
  refine wpAny_bind ?_
  show wpAny _ _ (updateSeq S (·.push .none) >>= fun _ => updateSeq S (·.pop)) _ _ _
  refine wpAny_bind (wpAny_updateSeq hS rfl ?_)
  have hS₂ := Heap.get?_update_self (Obj.mapSeq (·.push Value.none)) hS rfl
  refine wpAny_updateSeq (hz := by seq_fits) hS₂ rfl ?_
  have hS₃ := Heap.get?_update_self (Obj.mapSeq (·.pop)) hS₂ rfl
  refine wpAny_pure ⟨plainId_quiet PySem.F.plain_extend_loop _, key _ _ _ (fun b o hb e => ?_) (by simp [Heap.size_update]) hS₃⟩
  exact (Heap.get?_update_other _ _ (Ne.symm hb)).trans ((Heap.get?_update_other _ _ (Ne.symm hb)).trans e)
theorem z_init {z TI TO i1 i2 l1 l2 S : Addr} {xs ys : Array Value} {n : Nat} {R : Result → Shared → Prop} (hh : A.handled = none) (D : ZipApart z TI TO i1 i2 l1 l2) (n1 : z ≠ S) (n2 : TI ≠ S) (n3 : TO ≠ S) (n4 : i1 ≠ S) (n5 : i2 ≠ S) (n6 : l1 ≠ S) (n7 : l2 ≠ S)
    (hn : n = min xs.size ys.size) (hsl : n ≤ sizeLine) (hz : Zp s.heap z TI TO .none (.bool false)) (hti : IsPair s.heap TI (.ref i1) (.ref i2)) (hto : ∃ a b, IsPair s.heap TO a b) (h1 : s.heap.IsListIter i1 l1 0) (h2 : s.heap.IsListIter i2 l2 0)
    (hL1 : s.heap.IsList l1 xs) (hL2 : s.heap.IsList l2 ys) (hS : s.heap.get? S = some { cls := .type "list", data := .seq #[] })
    (hR : ∀ h' tk acc c as, (∀ b o, b ≠ S → b ≠ z → b ≠ TO → b ≠ i1 → b ≠ i2 → s.heap.get? b = some o → h'.get? b = some o) → h'.get? S = some { cls := .type "list", dict := none, data := .seq acc c, slots := #[] } → as.length = n → Prs xs ys s.heap.objs.size h' as →
      acc.toList = as.map Value.ref → R (.ok (.ret .none)) { s with heap := h', toks := tk }) :
    wpAny (model prog w) A.in1 (Builtin.«list.__init__» ⟨[.ref S, .ref z], []⟩)
      (fun fin s' => match fin with | .done f => R (.ok f) s' | .again c' => c'.quiet = true ∧ codeAny (model prog w) A c' R s') (fun e s' => R (.error e) s') s := by
  show wpAny _ _ (do let old ← Builtin.List.listItems (.ref S); Builtin.List.listUpdate (.ref S) (fun _ => #[]); letGo old.toList.reverse; Builtin.List.listExtendWith (.ref S) (.ref z) .none) _ _ s
  refine wpAny_bind ?_
  unfold Builtin.List.listItems
  refine wpAny_bind (wpAny_seqItems hS rfl (wpAny_pure ?_))
  show wpAny _ _ (updateSeq S (fun _ => #[]) >>= fun _ => letGo (#[] : Array Value).toList.reverse >>= fun _ => Builtin.List.listExtendWith (.ref S) (.ref z) .none) _ _ s
  refine wpAny_bind (wpAny_updateSeq hS rfl ?_)
  have hS₂ := Heap.get?_update_self (Obj.mapSeq (fun _ => (#[] : Array Value))) hS rfl
  have oth : ∀ b o, b ≠ S → s.heap.get? b = some o → (s.heap.update S (Obj.mapSeq (fun _ => (#[] : Array Value)))).get? b = some o :=
    fun b o hb e => (Heap.get?_update_other _ _ (Ne.symm hb)).trans e
  have hzz : (s.heap.update S (Obj.mapSeq (fun _ => (#[] : Array Value)))).objs.size = s.heap.objs.size := by simp [Heap.size_update]
  refine wpAny_bind (wpAny_letGo ?_)
  refine z_extend hh D n1 n2 n3 n4 n5 n6 n7 hn hsl .none _ (oth _ _ n1 hz) (oth _ _ n2 hti) (let ⟨a, b, e⟩ := hto; ⟨a, b, oth _ _ n3 e⟩) (h1.at fun o e => oth _ o n4 e) (h2.at fun o e => oth _ o n5 e)
    (let ⟨o, e, q⟩ := hL1; ⟨o, oth _ _ n6 e, q⟩) (let ⟨o, e, q⟩ := hL2; ⟨o, oth _ _ n7 e, q⟩) hS₂ (fun h' tk acc c as hk hS' hl hG hacc => ?_)
  exact hR h' tk acc c as (fun b o hb b1 b2 b3 b4 e => hk b o hb b1 b2 b3 b4 (oth b o hb e)) hS' hl (by rw [← hzz]; exact hG) hacc
theorem z_call {z TI TO i1 i2 l1 l2 : Addr} {xs ys : Array Value} {n : Nat} {Q : Value → Shared → Prop} (hh : A.handled = none) (D : ZipApart z TI TO i1 i2 l1 l2)
    (hn : n = min xs.size ys.size) (hsl : n ≤ sizeLine) (hz : Zp s.heap z TI TO .none (.bool false)) (hti : IsPair s.heap TI (.ref i1) (.ref i2)) (hto : ∃ a b, IsPair s.heap TO a b) (h1 : s.heap.IsListIter i1 l1 0) (h2 : s.heap.IsListIter i2 l2 0)
    (hL1 : s.heap.IsList l1 xs) (hL2 : s.heap.IsList l2 ys)
    (hQ : ∀ h' tk acc c as, (∀ b o, b ≠ z → b ≠ TO → b ≠ i1 → b ≠ i2 → s.heap.get? b = some o → h'.get? b = some o) → h'.get? s.heap.objs.size = some { cls := .type "list", dict := none, data := .seq acc c, slots := #[] } → as.length = n → Prs xs ys (s.heap.objs.size + 1) h' as →
      acc.toList = as.map Value.ref → Q (.ref s.heap.objs.size) { s with heap := h', toks := tk }) :
    wpAny (model prog w) A (call (.type "list") [.ref z]) Q E s := by
  refine callType_codes (Q₁ := fun obj s₁ => obj = .ref s.heap.objs.size ∧ s₁ = { s with heap := s.heap.push { cls := .type "list", data := .seq #[] } }) PySem.F.called_list (PySem.F.typeCall_list_1 _) PySem.F.entry_list_init
    (code_list_new _ ⟨rfl, rfl⟩) fun obj s₁ h₁ => ?_
  obtain ⟨rfl, rfl⟩ := h₁
  have hS : (s.heap.push { cls := .type "list", data := .seq #[] }).get? s.heap.objs.size = some { cls := .type "list", data := .seq #[] } := Heap.get?_push_size _ rfl
  have up : ∀ b o, s.heap.get? b = some o → (s.heap.push { cls := .type "list", data := .seq #[] }).get? b = some o := fun b o e => Heap.get?_push_of_some _ e
  have lt : ∀ (b : Addr) (o : Obj), s.heap.get? b = some o → b ≠ s.heap.objs.size := fun b o e => Nat.ne_of_lt (Heap.lt_size e)
  have hzz : (s.heap.push { cls := .type "list", data := .seq #[] }).objs.size = s.heap.objs.size + 1 := Heap.size_push _ _
  refine ⟨⟨_, hS, rfl⟩, PySem.F.args_list_init_2 _ _, z_init (A := A.in1) hh D (lt _ _ hz) (lt _ _ hti) (let ⟨_, _, e⟩ := hto; lt _ _ e) (let ⟨_, e, _⟩ := h1; lt _ _ e) (let ⟨_, e, _⟩ := h2; lt _ _ e) (let ⟨_, e, _⟩ := hL1; lt _ _ e) (let ⟨_, e, _⟩ := hL2; lt _ _ e)
    hn hsl (up _ _ hz) (up _ _ hti) (let ⟨a, b, e⟩ := hto; ⟨a, b, up _ _ e⟩) (h1.at fun o e => up _ o e) (h2.at fun o e => up _ o e) (let ⟨o, e, q⟩ := hL1; ⟨o, up _ _ e, q⟩) (let ⟨o, e, q⟩ := hL2; ⟨o, up _ _ e, q⟩) hS (fun h' tk acc c as hk hS' hl hG hacc => ?_)⟩
  exact ⟨rfl, hQ h' tk acc c as (fun b o b1 b2 b3 b4 e => hk b o (lt _ _ e) b1 b2 b3 b4 (up _ _ e)) hS' hl (by rw [← hzz]; exact hG) hacc⟩
/-- list(zip(a, b)) of two lists -/
theorem list_zip {l1 l2 : Addr} {xs ys : Array Value} {n : Nat} {Q : Value → Shared → Prop} (hh : A.handled = none) (hn : n = min xs.size ys.size) (hsl : n ≤ sizeLine) (hL1 : s.heap.IsList l1 xs) (hL2 : s.heap.IsList l2 ys)
    (hQ : ∀ h' tk acc c as, (∀ b o, s.heap.get? b = some o → h'.get? b = some o) → h'.get? (s.heap.objs.size + 5) = some { cls := .type "list", dict := none, data := .seq acc c, slots := #[] } → as.length = n → Prs xs ys (s.heap.objs.size + 6) h' as →
      acc.toList = as.map Value.ref → Q (.ref (s.heap.objs.size + 5)) { s with heap := h', toks := tk }) :
    wpAny (model prog w) A (call (.type "zip") [.ref l1, .ref l2] >>= fun v => call (.type "list") [v]) Q E s := by
  have b1 : l1 < s.heap.objs.size := let ⟨_, e, _⟩ := hL1; Heap.lt_size e
  have b2 : l2 < s.heap.objs.size := let ⟨_, e, _⟩ := hL2; Heap.lt_size e
  refine wpAny_bind (call_zip_2 hL1 hL2 fun h' hz hti hto h1 h2 hsz hk => ?_)
  have D := PyProof.Rows.zipApart_new b1 b2
  refine z_call (s := { s with heap := h' }) hh D hn hsl hz hti ⟨_, _, hto⟩ h1 h2 (let ⟨o, e, q⟩ := hL1; ⟨o, hk _ _ e, q⟩) (let ⟨o, e, q⟩ := hL2; ⟨o, hk _ _ e, q⟩) fun h'' tk acc c as hk' hS' hl hG hacc => ?_
  dsimp only at hS' hG ⊢
  rw [hsz] at hS' hG ⊢
  refine hQ h'' tk acc c as (fun b o e => ?_) hS' hl hG hacc
  have lb := Heap.lt_size e
  exact hk' b o (Nat.ne_of_lt (Nat.lt_add_right 4 lb)) (Nat.ne_of_lt (Nat.lt_add_right 3 lb)) (Nat.ne_of_lt lb) (Nat.ne_of_lt (Nat.lt_add_right 1 lb)) (hk b o e)
end ZL
end PySem

set_option maxHeartbeats 4000000
/-! list(zip(a, b)) of two tuples: the zip's next pair while the last one is still held. -/
namespace PySem
open Sem (wp)
namespace ZT
open PySem.F
abbrev Zp (h : Heap) (z TI TO : Addr) (f0 f1 : Value) : Prop := h.get? z = some { cls := .type "zip", data := .fields #[f0, f1, .bool false, .ref TI, .ref TO] }
variable {prog : Program} {w : World} {A : Around} {E : Value → Shared → Prop} {s : Shared}
theorem free_no {z TI TO T : Addr} {oT : Obj} {fl : Bool} {Q : Bool → Shared → Prop} (hz : Zp s.heap z TI TO (rawInt T) (.bool fl)) (hT : s.heap.get? T = some oT)
    (hQ : ∀ h', Zp h' z TI TO (rawInt T) (.bool true) → h'.objs.size = s.heap.objs.size → (∀ c o, c ≠ z → s.heap.get? c = some o → h'.get? c = some o) → Q false { s with heap := h' }) : wpAny (model prog w) A (Builtin.SmallTypes.ownedTupleIsFree (.ref z)) Q E s := by
  unfold Builtin.SmallTypes.ownedTupleIsFree
  refine wpAny_bind (wpAny_field hz rfl (x := rawInt T) rfl ?_)
  refine wpAny_bind (W.kdx_alive hT ?_)
  rw [if_neg (by simp)]
  refine wpAny_bind (wpAny_field hz rfl (x := .bool fl) rfl ?_)
  cases fl with
  | true =>
    rw [if_neg (by decide)]
    exact wpAny_bind (wpAny_pure (wpAny_pure (hQ s.heap hz rfl fun _ _ _ e => e)))
  | false =>
    rw [if_pos (by decide)]
    refine wpAny_bind (wpAny_setField_rec hz (by simp) fun h₁ hz₁ hs₁ => ?_)
    exact wpAny_pure (hQ h₁ hz₁ hs₁.1 fun c o ne e => hs₁.extBut _ _ ne e)
theorem next_out {z TI TO i1 i2 l1 l2 T : Addr} {k1 k2 : Nat} {xs ys : Array Value} {x y : Value} {oT : Obj} {fl : Bool} {Q : Value → Shared → Prop} (D : ZipApart z TI TO i1 i2 l1 l2)
    (hz : Zp s.heap z TI TO (rawInt T) (.bool fl)) (hT : s.heap.get? T = some oT) (hTI : IsPair s.heap TI (.ref i1) (.ref i2))
    (h1 : s.heap.IsTupleIter i1 l1 k1) (h2 : s.heap.IsTupleIter i2 l2 k2) (hl1 : s.heap.IsTuple l1 xs) (hl2 : s.heap.IsTuple l2 ys) (hx : xs[k1]? = some x) (hy : ys[k2]? = some y) (hTz : T ≠ z)
    (hQ : ∀ h', Zp h' z TI TO (rawInt T) (.bool true) → h'.IsTupleIter i1 l1 (k1 + 1) → h'.IsTupleIter i2 l2 (k2 + 1) → IsPair h' s.heap.objs.size x y → h'.objs.size = s.heap.objs.size + 1 →
      (∀ c o, c ≠ z → c ≠ i1 → c ≠ i2 → s.heap.get? c = some o → h'.get? c = some o) → Q (.ref s.heap.objs.size) { s with heap := h' }) :
    wpAny (model prog w) A (Builtin.«zip.__next__» ⟨[.ref z], []⟩) (fun fin s' => ∃ v, fin = .done (.ret v) ∧ Q v s') E s := by
  show wpAny _ _ (field (.ref z) 2 >>= _) _ _ _
  refine wpAny_bind (wpAny_field hz rfl (x := .bool false) rfl ?_)
  show wpAny _ _ (field (.ref z) 3 >>= _) _ _ _
  refine wpAny_bind (wpAny_field hz rfl (x := .ref TI) rfl ?_)
  refine wpAny_bind (wpAny_seqItems hTI rfl ?_)
  show wpAny _ _ (Builtin.SmallTypes.ownedTupleIsFree (.ref z) >>= _) _ _ _
  refine wpAny_bind (free_no hz hT fun h₀ hz₀ hn₀ hs₀ => ?_)
  rw [if_neg (by decide)]
  show wpAny _ _ (forIn #[Value.ref i1, Value.ref i2] ((none : Option Fin), (#[] : Array Value)) _ >>= _) _ _ _
  refine wpAny_bind ?_
  rw [← Array.forIn_toList]
  simp only [List.forIn_cons, List.forIn_nil]
  refine wpAny_bind (wpAny_bind (wpAny_holding ?_))
  show wpAny _ _ (Builtin.SmallTypes.nextOf (.ref i1) >>= _) _ _ _
  have h1₀ : h₀.IsTupleIter i1 l1 k1 := h1.at fun o e => hs₀ _ _ D.i1z e
  have hl1₀ : h₀.IsTuple l1 xs := let ⟨o, e, q⟩ := hl1; ⟨o, hs₀ _ _ D.l1z e, q⟩
  refine wpAny_bind (RZ.nextOf_tuple_item h1₀ hl1₀ hx fun h₂ h1₂ hs₂ => wpAny_pure ?_)
  refine wpAny_pure ?_
  refine wpAny_bind (wpAny_bind (wpAny_holding ?_))
  show wpAny _ _ (Builtin.SmallTypes.nextOf (.ref i2) >>= _) _ _ _
  have h2₂ : h₂.IsTupleIter i2 l2 k2 := (h2.at fun o e => hs₀ _ _ D.i2z e).extBut hs₂.extBut D.i12.symm
  have hl2₂ : h₂.IsTuple l2 ys := (show h₀.IsTuple l2 ys from let ⟨o, e, q⟩ := hl2; ⟨o, hs₀ _ _ D.l2z e, q⟩).extBut hs₂.extBut D.l2i1
  refine wpAny_bind (RZ.nextOf_tuple_item h2₂ hl2₂ hy fun h₄ h2₄ hs₄ => wpAny_pure ?_)
  refine wpAny_pure (wpAny_pure ?_)
  refine wpAny_bind (wpAny_newTuple (hsz := by show 2 ≤ sizeLine; decide) ?_)
  have hsz : h₄.objs.size = s.heap.objs.size := by rw [hs₄.1, hs₂.1, hn₀]
  refine wpAny_pure ⟨_, rfl, ?_⟩
  show Q (.ref h₄.objs.size) { s with heap := h₄.push { cls := .type "tuple", data := .seq #[x, y] } }
  have eT : IsPair (h₄.push { cls := .type "tuple", data := .seq #[x, y] }) h₄.objs.size x y := Heap.get?_push_size _ rfl
  have en : (h₄.push { cls := .type "tuple", data := .seq #[x, y] }).objs.size = h₄.objs.size + 1 := Heap.size_push _ _
  have ez : Zp h₄ z TI TO (rawInt T) (.bool true) := hs₄.extBut _ _ D.i2z.symm (hs₂.extBut _ _ D.i1z.symm hz₀)
  have up : ∀ c o, h₄.get? c = some o → (h₄.push { cls := .type "tuple", data := .seq #[x, y] }).get? c = some o := fun c o e => Heap.get?_push_of_some _ e
  rw [hsz] at eT en ⊢
  exact hQ _ (up _ _ ez) ((h1₂.extBut hs₄.extBut D.i12).at fun o e => up _ o e) (h2₄.at fun o e => up _ o e) eT en fun c o c1 c2 c3 e => up _ _ (hs₄.extBut _ _ c3 (hs₂.extBut _ _ c2 (hs₀ _ _ c1 e)))
theorem next_end {z TI TO i1 i2 l1 l2 T : Addr} {k1 k2 : Nat} {xs ys : Array Value} {oT : Obj} {fl : Bool} {Q : Fin → Shared → Prop} (hh : A.handled = none) (D : ZipApart z TI TO i1 i2 l1 l2)
    (hz : Zp s.heap z TI TO (rawInt T) (.bool fl)) (hT : s.heap.get? T = some oT) (hTI : IsPair s.heap TI (.ref i1) (.ref i2))
    (h1 : s.heap.IsTupleIter i1 l1 k1) (h2 : s.heap.IsTupleIter i2 l2 k2) (hl1 : s.heap.IsTuple l1 xs) (hl2 : s.heap.IsTuple l2 ys) (hend : xs[k1]? = none ∨ ys[k2]? = none)
    (hE : ∀ h' e, (∀ c o, c ≠ z → c ≠ i1 → c ≠ i2 → s.heap.get? c = some o → h'.get? c = some o) → (∃ o, h'.get? e = some o ∧ o.cls = .type "StopIteration") → E (.ref e) { s with heap := h' }) :
    wpAny (model prog w) A (Builtin.«zip.__next__» ⟨[.ref z], []⟩) Q E s := by
  show wpAny _ _ (field (.ref z) 2 >>= _) _ _ _
  refine wpAny_bind (wpAny_field hz rfl (x := .bool false) rfl ?_)
  show wpAny _ _ (field (.ref z) 3 >>= _) _ _ _
  refine wpAny_bind (wpAny_field hz rfl (x := .ref TI) rfl ?_)
  refine wpAny_bind (wpAny_seqItems hTI rfl ?_)
  show wpAny _ _ (Builtin.SmallTypes.ownedTupleIsFree (.ref z) >>= _) _ _ _
  refine wpAny_bind (free_no hz hT fun h₀ hz₀ hn₀ hs₀ => ?_)
  rw [if_neg (by decide)]
  show wpAny _ _ (forIn #[Value.ref i1, Value.ref i2] ((none : Option Fin), (#[] : Array Value)) _ >>= _) _ _ _
  refine wpAny_bind ?_
  rw [← Array.forIn_toList]
  simp only [List.forIn_cons, List.forIn_nil]
  refine wpAny_bind (wpAny_bind (wpAny_holding ?_))
  show wpAny _ _ (Builtin.SmallTypes.nextOf (.ref i1) >>= _) _ _ _
  have h1₀ : h₀.IsTupleIter i1 l1 k1 := h1.at fun o e => hs₀ _ _ D.i1z e
  have hl1₀ : h₀.IsTuple l1 xs := let ⟨o, e, q⟩ := hl1; ⟨o, hs₀ _ _ D.l1z e, q⟩
  cases hx : xs[k1]? with
  | none =>
    exact wpAny_bind (RZ.nextOf_tuple_end hh h1₀ hl1₀ hx fun h₂ e hs₂ he => hE h₂ e (fun c o c1 c3 _ x => hs₂ _ _ c3 (hs₀ _ _ c1 x)) he)
  | some x =>
    have hy : ys[k2]? = none := by rcases hend with h | h; rw [hx] at h; cases h; exact h
    refine wpAny_bind (RZ.nextOf_tuple_item h1₀ hl1₀ hx fun h₂ h1₂ hs₂ => wpAny_pure ?_)
    refine wpAny_pure ?_
    refine wpAny_bind (wpAny_bind (wpAny_holding ?_))
    show wpAny _ _ (Builtin.SmallTypes.nextOf (.ref i2) >>= _) _ _ _
    have h2₂ : h₂.IsTupleIter i2 l2 k2 := (h2.at fun o e => hs₀ _ _ D.i2z e).extBut hs₂.extBut D.i12.symm
    have hl2₂ : h₂.IsTuple l2 ys := (show h₀.IsTuple l2 ys from let ⟨o, e, q⟩ := hl2; ⟨o, hs₀ _ _ D.l2z e, q⟩).extBut hs₂.extBut D.l2i1
    exact wpAny_bind (RZ.nextOf_tuple_end hh h2₂ hl2₂ hy fun h₄ e hs₄ he => hE h₄ e (fun c o c1 c3 c4 x => hs₄ _ _ c4 (hs₂.extBut _ _ c3 (hs₀ _ _ c1 x))) he)
theorem py_out {z TI TO i1 i2 l1 l2 T : Addr} {k1 k2 : Nat} {xs ys : Array Value} {x y : Value} {oT : Obj} {fl : Bool} {Q : Option Value → Shared → Prop} (D : ZipApart z TI TO i1 i2 l1 l2)
    (hz : Zp s.heap z TI TO (rawInt T) (.bool fl)) (hT : s.heap.get? T = some oT) (hTI : IsPair s.heap TI (.ref i1) (.ref i2))
    (h1 : s.heap.IsTupleIter i1 l1 k1) (h2 : s.heap.IsTupleIter i2 l2 k2) (hl1 : s.heap.IsTuple l1 xs) (hl2 : s.heap.IsTuple l2 ys) (hx : xs[k1]? = some x) (hy : ys[k2]? = some y) (hTz : T ≠ z)
    (hQ : ∀ h', Zp h' z TI TO (rawInt T) (.bool true) → h'.IsTupleIter i1 l1 (k1 + 1) → h'.IsTupleIter i2 l2 (k2 + 1) → IsPair h' s.heap.objs.size x y → h'.objs.size = s.heap.objs.size + 1 →
      (∀ c o, c ≠ z → c ≠ i1 → c ≠ i2 → s.heap.get? c = some o → h'.get? c = some o) → Q (some (.ref s.heap.objs.size)) { s with heap := h' }) : wpAny (model prog w) A (pyNext (.ref z)) Q E s := by
  have hTy : s.TypeIs (.ref z) "zip" := ⟨_, hz, rfl⟩
  unfold pyNext
  exact wpAny_bind (wpAny_attempt (wpAny_callSpecial?_slot (name := Str.ofString "__next__") hTy F.slot_zip_next
    (wpAny_call_entry F.slot_zip_next hTy F.entry_zip_next
      (next_out D hz hT hTI h1 h2 hl1 hl2 hx hy hTz fun h' a1 a2 a3 a4 a5 a6 => wpAny_pure (hQ h' a1 a2 a3 a4 a5 a6)) (F.args_zip_next_1 _))))
theorem py_end {z TI TO i1 i2 l1 l2 T : Addr} {k1 k2 : Nat} {xs ys : Array Value} {oT : Obj} {fl : Bool} {Q : Option Value → Shared → Prop} (hh : A.handled = none) (D : ZipApart z TI TO i1 i2 l1 l2)
    (hz : Zp s.heap z TI TO (rawInt T) (.bool fl)) (hT : s.heap.get? T = some oT) (hTI : IsPair s.heap TI (.ref i1) (.ref i2))
    (h1 : s.heap.IsTupleIter i1 l1 k1) (h2 : s.heap.IsTupleIter i2 l2 k2) (hl1 : s.heap.IsTuple l1 xs) (hl2 : s.heap.IsTuple l2 ys) (hend : xs[k1]? = none ∨ ys[k2]? = none)
    (hQ : ∀ h', (∀ c o, c ≠ z → c ≠ i1 → c ≠ i2 → s.heap.get? c = some o → h'.get? c = some o) → Q none { s with heap := h' }) : wpAny (model prog w) A (pyNext (.ref z)) Q E s := by
  have hTy : s.TypeIs (.ref z) "zip" := ⟨_, hz, rfl⟩
  unfold pyNext
  refine wpAny_bind (wpAny_attempt (wpAny_callSpecial?_slot (name := Str.ofString "__next__") hTy F.slot_zip_next
    (wpAny_call_entry F.slot_zip_next hTy F.entry_zip_next (next_end hh D hz hT hTI h1 h2 hl1 hl2 hend fun h' e hk he => ?_) (F.args_zip_next_1 _))))
  obtain ⟨o, ho, hc⟩ := he
  refine wpAny_bind (wpAny_isInstance (T := "StopIteration") (b := true) ⟨o, ho, hc⟩ isSubtype_stop ?_)
  exact wpAny_pure (hQ _ hk)
/-- the zip of two lists behind k turns -/
structure ZSt (h : Heap) (z TI TO i1 i2 l1 l2 : Addr) (k : Nat) : Prop where
  rec_ : Zp h z TI TO .none (.bool false) ∨ ∃ (T : Addr) (oT : Obj) (fl : Bool), Zp h z TI TO (rawInt T) (.bool fl) ∧ h.get? T = some oT ∧ T ≠ z
  ti : IsPair h TI (.ref i1) (.ref i2)
  to_ : ∃ a b, IsPair h TO a b
  h1 : h.IsTupleIter i1 l1 k
  h2 : h.IsTupleIter i2 l2 k
theorem z_item {z TI TO i1 i2 l1 l2 : Addr} {k : Nat} {xs ys : Array Value} {x y : Value} {Q : Option Value → Shared → Prop} (D : ZipApart z TI TO i1 i2 l1 l2) (st : ZSt s.heap z TI TO i1 i2 l1 l2 k)
    (hl1 : s.heap.IsTuple l1 xs) (hl2 : s.heap.IsTuple l2 ys) (hx : xs[k]? = some x) (hy : ys[k]? = some y)
    (hQ : ∀ h', ZSt h' z TI TO i1 i2 l1 l2 (k + 1) → IsPair h' s.heap.objs.size x y → h'.objs.size = s.heap.objs.size + 1 →
      (∀ c o, c ≠ z → c ≠ TO → c ≠ i1 → c ≠ i2 → s.heap.get? c = some o → h'.get? c = some o) → Q (some (.ref s.heap.objs.size)) { s with heap := h' }) : wpAny (model prog w) A (pyNext (.ref z)) Q E s := by
  obtain ⟨hr, hti, ⟨a, b, hto⟩, h1, h2⟩ := st
  rcases hr with hz | ⟨T, oT, fl, hz, hT, hTz⟩
  · have hzl : z < s.heap.objs.size := Heap.lt_size hz
    refine RZ.pyNext_zipT_item D hz hti hto h1 h2 hl1 hl2 hx hy fun h' a1 a2 a3 a4 a5 a6 a7 => hQ h' ⟨.inr ⟨_, _, false, a1, a5, Nat.ne_of_gt hzl⟩, a7 _ _ D.TIz D.TITO D.TIi1 D.TIi2 hti, ⟨_, _, a2⟩, a3, a4⟩ a5 a6 a7
  · refine py_out D hz hT hti h1 h2 hl1 hl2 hx hy hTz fun h' a1 a3 a4 a5 a6 a7 => ?_
    have hT' : ∃ o, h'.get? T = some o := by
      by_cases q1 : T = i1
      · subst q1; obtain ⟨o, e, _⟩ := a3; exact ⟨o, e⟩
      · by_cases q2 : T = i2
        · subst q2; obtain ⟨o, e, _⟩ := a4; exact ⟨o, e⟩
        · exact ⟨_, a7 _ _ hTz q1 q2 hT⟩
    obtain ⟨o, eo⟩ := hT'
    exact hQ h' ⟨.inr ⟨T, o, true, a1, eo, hTz⟩, a7 _ _ D.TIz D.TIi1 D.TIi2 hti, ⟨a, b, a7 _ _ D.TOz D.TOi1 D.TOi2 hto⟩, a3, a4⟩ a5 a6 fun c o c1 c2 c3 c4 e => a7 c o c1 c3 c4 e
theorem z_end {z TI TO i1 i2 l1 l2 : Addr} {k : Nat} {xs ys : Array Value} {Q : Option Value → Shared → Prop} (hh : A.handled = none) (D : ZipApart z TI TO i1 i2 l1 l2) (st : ZSt s.heap z TI TO i1 i2 l1 l2 k)
    (hl1 : s.heap.IsTuple l1 xs) (hl2 : s.heap.IsTuple l2 ys) (hend : xs[k]? = none ∨ ys[k]? = none)
    (hQ : ∀ h', (∀ c o, c ≠ z → c ≠ TO → c ≠ i1 → c ≠ i2 → s.heap.get? c = some o → h'.get? c = some o) → Q none { s with heap := h' }) : wpAny (model prog w) A (pyNext (.ref z)) Q E s := by
  obtain ⟨hr, hti, ⟨a, b, hto⟩, h1, h2⟩ := st
  rcases hr with hz | ⟨T, oT, fl, hz, hT, hTz⟩
  · exact RZ.pyNext_zipT_end hh D hz hti hto h1 h2 hl1 hl2 hend hQ
  · exact py_end hh D hz hT hti h1 h2 hl1 hl2 hend fun h' k => hQ h' fun c o c1 _ c3 c4 e => k c o c1 c3 c4 e
theorem ZSt.keep {h h' : Heap} {z TI TO i1 i2 l1 l2 S : Addr} {k : Nat} (st : ZSt h z TI TO i1 i2 l1 l2 k) (up : ∀ b o, b ≠ S → h.get? b = some o → h'.get? b = some o) (n1 : z ≠ S) (n2 : TI ≠ S) (n3 : TO ≠ S) (n4 : i1 ≠ S) (n5 : i2 ≠ S) (hS : ∃ o, h'.get? S = some o) : ZSt h' z TI TO i1 i2 l1 l2 k := by
  obtain ⟨hr, hti, ⟨a, b, hto⟩, h1, h2⟩ := st
  refine ⟨?_, up _ _ n2 hti, ⟨a, b, up _ _ n3 hto⟩, h1.at fun o e => up _ o n4 e, h2.at fun o e => up _ o n5 e⟩
  rcases hr with hz | ⟨T, oT, fl, hz, hT, hTz⟩
  · exact .inl (up _ _ n1 hz)
  · by_cases q : T = S
    · subst q
      obtain ⟨o, e⟩ := hS
      exact .inr ⟨T, o, fl, up _ _ n1 hz, e, hTz⟩
    · exact .inr ⟨T, oT, fl, up _ _ n1 hz, up _ _ q hT, hTz⟩
/-- what the new pairs are -/
structure Prs (xs ys : Array Value) (B0 : Nat) (h : Heap) (as : List Addr) : Prop where
  rise : as.Pairwise (· < ·)
  above : ∀ a ∈ as, B0 ≤ a
  pairs : ∀ (j : Nat) (a : Addr), as[j]? = some a → ∃ x y, xs[j]? = some x ∧ ys[j]? = some y ∧ IsPair h a x y
theorem z_loop {z TI TO i1 i2 l1 l2 S : Addr} {xs ys : Array Value} {B0 n : Nat} {R : Result → Shared → Prop} (hh : A.handled = none) (D : ZipApart z TI TO i1 i2 l1 l2) (n1 : z ≠ S) (n2 : TI ≠ S) (n3 : TO ≠ S) (n4 : i1 ≠ S) (n5 : i2 ≠ S) (n6 : l1 ≠ S) (n7 : l2 ≠ S)
    (bz : z < B0) (bTO : TO < B0) (bi1 : i1 < B0) (bi2 : i2 < B0) (bS : S < B0) (hn : n = min xs.size ys.size) (hsl : n ≤ sizeLine) (res : Value) {h₁ : Heap}
    (hR : ∀ h' tk acc c as, (∀ b o, b ≠ S → b ≠ z → b ≠ TO → b ≠ i1 → b ≠ i2 → h₁.get? b = some o → h'.get? b = some o) → h'.get? S = some { cls := .type "list", dict := none, data := .seq acc c, slots := #[] } → as.length = n → Prs xs ys B0 h' as →
      acc.toList = as.map Value.ref → R (.ok (.ret res)) { s with heap := h', toks := tk }) :
    ∀ (k i : Nat) (h : Heap) (tk c : Nat) (acc : Array Value) (as : List Addr), n - i = k → i ≤ n → ZSt h z TI TO i1 i2 l1 l2 i → h.IsTuple l1 xs → h.IsTuple l2 ys → (∀ b o, b ≠ S → b ≠ z → b ≠ TO → b ≠ i1 → b ≠ i2 → h₁.get? b = some o → h.get? b = some o) →
      h.get? S = some { cls := .type "list", dict := none, data := .seq acc c, slots := #[] } → acc.toList = as.map Value.ref → as.length = i → Prs xs ys B0 h as → B0 ≤ h.objs.size →
      codeAny (model prog w) A (.builtin "list.extend.loop" ⟨[.ref S, .ref z, res], []⟩) R { s with heap := h, toks := tk } := by
  intro k
  induction k with
  | zero =>
    intro i h tk c acc as hk hi hst hL1 hL2 hkeep hS hacc hal hG hIs
    have hin : i = n := by omega
    refine codeAny_builtin PySem.F.entry_extend_loop ?_
    rw [Around.under_plainId PySem.F.plain_extend_loop _]
    show wpAny _ A.in1 (pyNext (.ref z) >>= _) _ _ _
    have hend : xs[i]? = none ∨ ys[i]? = none := by
      rcases Nat.le_total xs.size ys.size with q | q
      · exact .inl (Array.getElem?_eq_none (by omega))
      · exact .inr (Array.getElem?_eq_none (by omega))
    refine wpAny_bind (z_end (s := { s with heap := h, toks := tk }) (A := A.in1) hh D hst hL1 hL2 hend fun h' he => ?_)
    refine wpAny_pure (hR h' tk acc c as (fun b o c0 c1 c2 c3 c4 e => he b o c1 c2 c3 c4 (hkeep b o c0 c1 c2 c3 c4 e)) (he S _ n1.symm n3.symm n4.symm n5.symm hS) (by omega) ⟨hG.rise, hG.above, fun j a hj => ?_⟩ hacc)
    obtain ⟨x, y, e1, e2, e3⟩ := hG.pairs j a hj
    have ha := hG.above a (List.mem_of_getElem? hj)
    exact ⟨x, y, e1, e2, he a _ (Nat.ne_of_gt (Nat.lt_of_lt_of_le bz ha)) (Nat.ne_of_gt (Nat.lt_of_lt_of_le bTO ha)) (Nat.ne_of_gt (Nat.lt_of_lt_of_le bi1 ha)) (Nat.ne_of_gt (Nat.lt_of_lt_of_le bi2 ha)) e3⟩
  | succ k ih =>
    intro i h tk c acc as hk hi hst hL1 hL2 hkeep hS hacc hal hG hIs
    have hxl : i < xs.size := by omega
    have hyl : i < ys.size := by omega
    obtain ⟨x, hx⟩ : ∃ p, xs[i]? = some p := ⟨xs[i], Array.getElem?_eq_getElem hxl⟩
    obtain ⟨y, hy⟩ : ∃ p, ys[i]? = some p := ⟨ys[i], Array.getElem?_eq_getElem hyl⟩
    have hsz : acc.size = i := by rw [← Array.length_toList, hacc, List.length_map, hal]
    refine codeAny_builtin PySem.F.entry_extend_loop ?_
    rw [Around.under_plainId PySem.F.plain_extend_loop _]
    show wpAny _ A.in1 (pyNext (.ref z) >>= _) _ _ _
    refine wpAny_bind (z_item (s := { s with heap := h, toks := tk }) D hst hL1 hL2 hx hy fun h' hst' ht hz hkp => ?_)
    dsimp only at ht hz hkp ⊢
    have hS' := hkp S _ n1.symm n3.symm n4.symm n5.symm hS
    have up : ∀ b o, b ≠ S → h'.get? b = some o → (h'.update S (Obj.mapSeq (·.push (Value.ref h.objs.size)))).get? b = some o := fun b o hb e => (Heap.get?_update_other _ _ (Ne.symm hb)).trans e
    have hSl : S < h.objs.size := Heap.lt_size hS
    have hSn := Heap.get?_update_self (Obj.mapSeq (·.push (Value.ref h.objs.size))) hS' rfl
    have tt : (h'.update S (Obj.mapSeq (·.push (Value.ref h.objs.size)))).get? h.objs.size = _ := up _ _ (Nat.ne_of_gt hSl) ht
    show wpAny _ A.in1 (updateSeq S (·.push (Value.ref h.objs.size)) >>= _) _ _ _
    refine wpAny_bind ?_
    refine wpAny_updateSeq hS' rfl (wpAny_pure ⟨plainId_quiet PySem.F.plain_extend_loop _, ih (i + 1) _ tk _ (acc.push (Value.ref h.objs.size)) (as ++ [h.objs.size]) (by omega) (by omega) (hst'.keep up n1 n2 n3 n4 n5 ⟨_, hSn⟩)
      (let ⟨o, e, q⟩ := hL1; ⟨o, up _ _ n6 (hkp _ _ D.l1z D.l1TO D.l1i1 D.l1i2 e), q⟩) (let ⟨o, e, q⟩ := hL2; ⟨o, up _ _ n7 (hkp _ _ D.l2z D.l2TO D.l2i1 D.l2i2 e), q⟩)
      (fun b o c0 c1 c2 c3 c4 e => up b o c0 (hkp b o c1 c2 c3 c4 (hkeep b o c0 c1 c2 c3 c4 e))) hSn (by rw [Array.toList_push, hacc, List.map_append]; rfl) (by rw [List.length_append, hal]; rfl) ⟨?_, ?_, ?_⟩ (Nat.le_of_lt (Nat.lt_of_le_of_lt hIs (Heap.lt_size tt)))⟩) (by rw [hsz]; omega) (by show (acc.push (Value.ref h.objs.size)).size ≤ sizeLine + 1; rw [Array.size_push, hsz]; omega)
    · refine List.pairwise_append.mpr ⟨hG.rise, List.pairwise_singleton _ _, fun a ha b hb => ?_⟩
      rw [List.mem_singleton.mp hb]
      obtain ⟨j, hj⟩ := List.mem_iff_getElem?.mp ha
      obtain ⟨_, _, _, _, e⟩ := hG.pairs j a hj
      exact Heap.lt_size e
    · intro a ha
      rcases List.mem_append.mp ha with ha | ha
      · exact hG.above a ha
      · rw [List.mem_singleton.mp ha]; exact hIs
    · intro j b hj
      rcases Nat.lt_trichotomy j as.length with h1 | h1 | h1
      · rw [List.getElem?_append_left h1] at hj
        obtain ⟨x', y', e1, e2, e3⟩ := hG.pairs j b hj
        have hb := hG.above b (List.mem_of_getElem? hj)
        have ne : ∀ q, q < B0 → b ≠ q := fun q hq => Nat.ne_of_gt (Nat.lt_of_lt_of_le hq hb)
        exact ⟨x', y', e1, e2, up b _ (ne _ bS) (hkp b _ (ne _ bz) (ne _ bTO) (ne _ bi1) (ne _ bi2) e3)⟩
      · subst h1
        have hb : h.objs.size = b := by simpa using hj
        subst hb
        exact ⟨x, y, by rw [hal]; exact hx, by rw [hal]; exact hy, tt⟩
      · have hnone : (as ++ [h.objs.size])[j]? = none := List.getElem?_eq_none (by rw [List.length_append, List.length_singleton]; omega)
        rw [hnone] at hj; cases hj
theorem zip_no_len : typeLookup (.type "zip") "__len__" = pure none := by rw [typeLookup_type, builtinLookup_eq_fast]; kernel_rfl
theorem zip_no_hint : typeLookup (.type "zip") "__length_hint__" = pure none := by rw [typeLookup_type, builtinLookup_eq_fast]; kernel_rfl
theorem z_hint {z : Addr} (hT : s.TypeIs (.ref z) "zip") {Q : Bool → Shared → Prop} (h : Q true s) : wpAny (model prog w) A (Builtin.List.listLengthHint (.ref z)) Q E s := by
  unfold Builtin.List.listLengthHint
  refine wpAny_bind (wpAny_specialOf hT zip_no_len ?_)
  wp_delta
  refine wpAny_bind ?_
  refine wpAny_specialOf hT zip_no_hint ?_
  exact wpAny_pure h
theorem ZSt.zip {h : Heap} {z TI TO i1 i2 l1 l2 : Addr} {k : Nat} (st : ZSt h z TI TO i1 i2 l1 l2 k) : ∃ f0 f1, Zp h z TI TO f0 f1 := by
  rcases st.rec_ with e | ⟨T, _, fl, e, _⟩
  · exact ⟨_, _, e⟩
  · exact ⟨_, _, e⟩
theorem z_extend {z TI TO i1 i2 l1 l2 S : Addr} {xs ys : Array Value} {n : Nat} {R : Result → Shared → Prop} (hh : A.handled = none) (D : ZipApart z TI TO i1 i2 l1 l2) (n1 : z ≠ S) (n2 : TI ≠ S) (n3 : TO ≠ S) (n4 : i1 ≠ S) (n5 : i2 ≠ S) (n6 : l1 ≠ S) (n7 : l2 ≠ S)
    (hn : n = min xs.size ys.size) (hsl : n ≤ sizeLine) (res : Value) (c₀ : Nat) (hz : Zp s.heap z TI TO .none (.bool false)) (hti : IsPair s.heap TI (.ref i1) (.ref i2)) (hto : ∃ a b, IsPair s.heap TO a b) (h1 : s.heap.IsTupleIter i1 l1 0) (h2 : s.heap.IsTupleIter i2 l2 0)
    (hL1 : s.heap.IsTuple l1 xs) (hL2 : s.heap.IsTuple l2 ys) (hS : s.heap.get? S = some { cls := .type "list", data := .seq #[] c₀ })
    (hR : ∀ h' tk acc c as, (∀ b o, b ≠ S → b ≠ z → b ≠ TO → b ≠ i1 → b ≠ i2 → s.heap.get? b = some o → h'.get? b = some o) → h'.get? S = some { cls := .type "list", dict := none, data := .seq acc c, slots := #[] } → as.length = n → Prs xs ys s.heap.objs.size h' as →
      acc.toList = as.map Value.ref → R (.ok (.ret res)) { s with heap := h', toks := tk }) :
    wpAny (model prog w) A.in1 (Builtin.List.listExtendWith (.ref S) (.ref z) res)
      (fun fin s' => match fin with | .done f => R (.ok f) s' | .again c' => c'.quiet = true ∧ codeAny (model prog w) A c' R s') (fun e s' => R (.error e) s') s := by
  have st : ZSt s.heap z TI TO i1 i2 l1 l2 0 := ⟨.inl hz, hti, hto, h1, h2⟩
  have hTy : s.TypeIs (.ref z) "zip" := ⟨_, hz, rfl⟩
  have key : ∀ (h : Heap) (c₁ tk : Nat), (∀ b o, b ≠ S → s.heap.get? b = some o → h.get? b = some o) → h.objs.size = s.heap.objs.size →
      h.get? S = some { cls := .type "list", data := .seq #[] c₁ } → codeAny (model prog w) A (.builtin "list.extend.loop" ⟨[.ref S, .ref z, res], []⟩) R { s with heap := h, toks := tk } := by
    intro h c₁ tk hk hsz hS₁
    refine z_loop (s := s) (B0 := s.heap.objs.size) (h₁ := s.heap) hh D n1 n2 n3 n4 n5 n6 n7 (Heap.lt_size hz) (let ⟨_, _, e⟩ := hto; Heap.lt_size e) (let ⟨_, e, _⟩ := h1; Heap.lt_size e) (let ⟨_, e, _⟩ := h2; Heap.lt_size e) (Heap.lt_size hS) hn hsl res hR
      n 0 h tk c₁ #[] [] (Nat.sub_zero _) (Nat.zero_le _) (st.keep hk n1 n2 n3 n4 n5 ⟨_, hS₁⟩) (let ⟨o, e, q⟩ := hL1; ⟨o, hk _ _ n6 e, q⟩) (let ⟨o, e, q⟩ := hL2; ⟨o, hk _ _ n7 e, q⟩) (fun b o hb _ _ _ _ e => hk b o hb e) hS₁ rfl rfl
      ⟨List.Pairwise.nil, (fun _ ha => nomatch ha), (fun j a hj => by simp at hj)⟩ (Nat.le_of_eq hsz.symm)
  unfold Builtin.List.listExtendWith
  refine wpAny_bind (wpAny_typeOf (T := "zip") hTy ?_)
  have g1 : Builtin.List.listSameRef (.ref S) (.ref z) = false := by simp [Builtin.List.listSameRef, n1.symm]
  have g2 : (Value.type "zip" == Value.type "list") = false := by decide
  have g3 : (Value.type "zip" == Value.type "tuple") = false := by decide
  simp only [g1, g2, g3, Bool.or_false, Bool.false_eq_true, if_false]
  refine wpAny_bind (wpAny_pyIter_zip hz ?_)
  refine wpAny_bind (wpAny_holding (z_hint hTy ?_))
  refine wpAny_ite_split (fun _ => ?_) (fun _ => wpAny_pure ⟨plainId_quiet PySem.F.plain_extend_loop _, key _ c₀ _ (fun b o _ e => e) rfl hS⟩)
  refine wpAny_bind (wpAny_rule ?_)
  refine wpAny_bind ?_
  show wpAny _ _ (updateSeq S (·.push .none) >>= fun _ => updateSeq S (·.pop)) _ _ _
  refine wpAny_bind (wpAny_updateSeq hS rfl ?_)
  have hS₂ := Heap.get?_update_self (Obj.mapSeq (·.push Value.none)) hS rfl
  refine wpAny_updateSeq (hz := by seq_fits) hS₂ rfl ?_
  have hS₃ := Heap.get?_update_self (Obj.mapSeq (·.pop)) hS₂ rfl
  refine wpAny_pure ⟨plainId_quiet PySem.F.plain_extend_loop _, key _ _ _ (fun b o hb e => ?_) (by simp [Heap.size_update]) hS₃⟩
  exact (Heap.get?_update_other _ _ (Ne.symm hb)).trans ((Heap.get?_update_other _ _ (Ne.symm hb)).trans e)
theorem z_init {z TI TO i1 i2 l1 l2 S : Addr} {xs ys : Array Value} {n : Nat} {R : Result → Shared → Prop} (hh : A.handled = none) (D : ZipApart z TI TO i1 i2 l1 l2) (n1 : z ≠ S) (n2 : TI ≠ S) (n3 : TO ≠ S) (n4 : i1 ≠ S) (n5 : i2 ≠ S) (n6 : l1 ≠ S) (n7 : l2 ≠ S)
    (hn : n = min xs.size ys.size) (hsl : n ≤ sizeLine) (hz : Zp s.heap z TI TO .none (.bool false)) (hti : IsPair s.heap TI (.ref i1) (.ref i2)) (hto : ∃ a b, IsPair s.heap TO a b) (h1 : s.heap.IsTupleIter i1 l1 0) (h2 : s.heap.IsTupleIter i2 l2 0)
    (hL1 : s.heap.IsTuple l1 xs) (hL2 : s.heap.IsTuple l2 ys) (hS : s.heap.get? S = some { cls := .type "list", data := .seq #[] })
    (hR : ∀ h' tk acc c as, (∀ b o, b ≠ S → b ≠ z → b ≠ TO → b ≠ i1 → b ≠ i2 → s.heap.get? b = some o → h'.get? b = some o) → h'.get? S = some { cls := .type "list", dict := none, data := .seq acc c, slots := #[] } → as.length = n → Prs xs ys s.heap.objs.size h' as →
      acc.toList = as.map Value.ref → R (.ok (.ret .none)) { s with heap := h', toks := tk }) :
    wpAny (model prog w) A.in1 (Builtin.«list.__init__» ⟨[.ref S, .ref z], []⟩)
      (fun fin s' => match fin with | .done f => R (.ok f) s' | .again c' => c'.quiet = true ∧ codeAny (model prog w) A c' R s') (fun e s' => R (.error e) s') s := by
  show wpAny _ _ (do let old ← Builtin.List.listItems (.ref S); Builtin.List.listUpdate (.ref S) (fun _ => #[]); letGo old.toList.reverse; Builtin.List.listExtendWith (.ref S) (.ref z) .none) _ _ s
  refine wpAny_bind ?_
  unfold Builtin.List.listItems
  refine wpAny_bind (wpAny_seqItems hS rfl (wpAny_pure ?_))
  show wpAny _ _ (updateSeq S (fun _ => #[]) >>= fun _ => letGo (#[] : Array Value).toList.reverse >>= fun _ => Builtin.List.listExtendWith (.ref S) (.ref z) .none) _ _ s
  refine wpAny_bind (wpAny_updateSeq hS rfl ?_)
  have hS₂ := Heap.get?_update_self (Obj.mapSeq (fun _ => (#[] : Array Value))) hS rfl
  have oth : ∀ b o, b ≠ S → s.heap.get? b = some o → (s.heap.update S (Obj.mapSeq (fun _ => (#[] : Array Value)))).get? b = some o :=
    fun b o hb e => (Heap.get?_update_other _ _ (Ne.symm hb)).trans e
  have hzz : (s.heap.update S (Obj.mapSeq (fun _ => (#[] : Array Value)))).objs.size = s.heap.objs.size := by simp [Heap.size_update]
  refine wpAny_bind (wpAny_letGo ?_)
  refine z_extend hh D n1 n2 n3 n4 n5 n6 n7 hn hsl .none _ (oth _ _ n1 hz) (oth _ _ n2 hti) (let ⟨a, b, e⟩ := hto; ⟨a, b, oth _ _ n3 e⟩) (h1.at fun o e => oth _ o n4 e) (h2.at fun o e => oth _ o n5 e)
    (let ⟨o, e, q⟩ := hL1; ⟨o, oth _ _ n6 e, q⟩) (let ⟨o, e, q⟩ := hL2; ⟨o, oth _ _ n7 e, q⟩) hS₂ (fun h' tk acc c as hk hS' hl hG hacc => ?_)
  exact hR h' tk acc c as (fun b o hb b1 b2 b3 b4 e => hk b o hb b1 b2 b3 b4 (oth b o hb e)) hS' hl (by rw [← hzz]; exact hG) hacc
theorem z_call {z TI TO i1 i2 l1 l2 : Addr} {xs ys : Array Value} {n : Nat} {Q : Value → Shared → Prop} (hh : A.handled = none) (D : ZipApart z TI TO i1 i2 l1 l2)
    (hn : n = min xs.size ys.size) (hsl : n ≤ sizeLine) (hz : Zp s.heap z TI TO .none (.bool false)) (hti : IsPair s.heap TI (.ref i1) (.ref i2)) (hto : ∃ a b, IsPair s.heap TO a b) (h1 : s.heap.IsTupleIter i1 l1 0) (h2 : s.heap.IsTupleIter i2 l2 0)
    (hL1 : s.heap.IsTuple l1 xs) (hL2 : s.heap.IsTuple l2 ys)
    (hQ : ∀ h' tk acc c as, (∀ b o, b ≠ z → b ≠ TO → b ≠ i1 → b ≠ i2 → s.heap.get? b = some o → h'.get? b = some o) → h'.get? s.heap.objs.size = some { cls := .type "list", dict := none, data := .seq acc c, slots := #[] } → as.length = n → Prs xs ys (s.heap.objs.size + 1) h' as →
      acc.toList = as.map Value.ref → Q (.ref s.heap.objs.size) { s with heap := h', toks := tk }) :
    wpAny (model prog w) A (call (.type "list") [.ref z]) Q E s := by
  refine callType_codes (Q₁ := fun obj s₁ => obj = .ref s.heap.objs.size ∧ s₁ = { s with heap := s.heap.push { cls := .type "list", data := .seq #[] } }) PySem.F.called_list (PySem.F.typeCall_list_1 _) PySem.F.entry_list_init
    (code_list_new _ ⟨rfl, rfl⟩) fun obj s₁ h₁ => ?_
  obtain ⟨rfl, rfl⟩ := h₁
  have hS : (s.heap.push { cls := .type "list", data := .seq #[] }).get? s.heap.objs.size = some { cls := .type "list", data := .seq #[] } := Heap.get?_push_size _ rfl
  have up : ∀ b o, s.heap.get? b = some o → (s.heap.push { cls := .type "list", data := .seq #[] }).get? b = some o := fun b o e => Heap.get?_push_of_some _ e
  have lt : ∀ (b : Addr) (o : Obj), s.heap.get? b = some o → b ≠ s.heap.objs.size := fun b o e => Nat.ne_of_lt (Heap.lt_size e)
  have hzz : (s.heap.push { cls := .type "list", data := .seq #[] }).objs.size = s.heap.objs.size + 1 := Heap.size_push _ _
  refine ⟨⟨_, hS, rfl⟩, PySem.F.args_list_init_2 _ _, z_init (A := A.in1) hh D (lt _ _ hz) (lt _ _ hti) (let ⟨_, _, e⟩ := hto; lt _ _ e) (let ⟨_, e, _⟩ := h1; lt _ _ e) (let ⟨_, e, _⟩ := h2; lt _ _ e) (let ⟨_, e, _⟩ := hL1; lt _ _ e) (let ⟨_, e, _⟩ := hL2; lt _ _ e)
    hn hsl (up _ _ hz) (up _ _ hti) (let ⟨a, b, e⟩ := hto; ⟨a, b, up _ _ e⟩) (h1.at fun o e => up _ o e) (h2.at fun o e => up _ o e) (let ⟨o, e, q⟩ := hL1; ⟨o, up _ _ e, q⟩) (let ⟨o, e, q⟩ := hL2; ⟨o, up _ _ e, q⟩) hS (fun h' tk acc c as hk hS' hl hG hacc => ?_)⟩
  exact ⟨rfl, hQ h' tk acc c as (fun b o b1 b2 b3 b4 e => hk b o (lt _ _ e) b1 b2 b3 b4 (up _ _ e)) hS' hl (by rw [← hzz]; exact hG) hacc⟩
/-- list(zip(a, b)) of two lists -/
theorem list_zipT {l1 l2 : Addr} {xs ys : Array Value} {n : Nat} {Q : Value → Shared → Prop} (hh : A.handled = none) (hn : n = min xs.size ys.size) (hsl : n ≤ sizeLine) (hL1 : s.heap.IsTuple l1 xs) (hL2 : s.heap.IsTuple l2 ys)
    (hQ : ∀ h' tk acc c as, (∀ b o, s.heap.get? b = some o → h'.get? b = some o) → h'.get? (s.heap.objs.size + 5) = some { cls := .type "list", dict := none, data := .seq acc c, slots := #[] } → as.length = n → Prs xs ys (s.heap.objs.size + 6) h' as →
      acc.toList = as.map Value.ref → Q (.ref (s.heap.objs.size + 5)) { s with heap := h', toks := tk }) :
    wpAny (model prog w) A (call (.type "zip") [.ref l1, .ref l2] >>= fun v => call (.type "list") [v]) Q E s := by
  have b1 : l1 < s.heap.objs.size := let ⟨_, e, _⟩ := hL1; Heap.lt_size e
  have b2 : l2 < s.heap.objs.size := let ⟨_, e, _⟩ := hL2; Heap.lt_size e
  refine wpAny_bind (RZ.call_zipT hL1 hL2 fun h' hz hti hto h1 h2 hsz hk => ?_)
  have D := PyProof.Rows.zipApart_new b1 b2
  refine z_call (s := { s with heap := h' }) hh D hn hsl hz hti ⟨_, _, hto⟩ h1 h2 (let ⟨o, e, q⟩ := hL1; ⟨o, hk _ _ e, q⟩) (let ⟨o, e, q⟩ := hL2; ⟨o, hk _ _ e, q⟩) fun h'' tk acc c as hk' hS' hl hG hacc => ?_
  dsimp only at hS' hG ⊢
  rw [hsz] at hS' hG ⊢
  refine hQ h'' tk acc c as (fun b o e => ?_) hS' hl hG hacc
  have lb := Heap.lt_size e
  exact hk' b o (Nat.ne_of_lt (Nat.lt_add_right 4 lb)) (Nat.ne_of_lt (Nat.lt_add_right 3 lb)) (Nat.ne_of_lt lb) (Nat.ne_of_lt (Nat.lt_add_right 1 lb)) (hk b o e)
end ZT
end PySem

set_option maxHeartbeats 4000000
/-! list(zip(a, b)) as a rule: what is laid on the tracked heap. -/
namespace ZH
open PySem PySem.Spec PyProof.Rows L2
def putP : Hp → List Addr → List (V × V) → Hp
  | H, a :: as, p :: kvs => putP (upd H a (.tup [p.1, p.2])) as kvs
  | H, _, _ => H
theorem putP_off {b : Addr} : ∀ (as : List Addr) (kvs : List (V × V)) (H : Hp), b ∉ as → putP H as kvs b = H b
  | [], _, _, _ => rfl
  | _ :: _, [], _, _ => rfl
  | a :: as, p :: kvs, H, h => by
    show putP (upd H a (.tup [p.1, p.2])) as kvs b = H b
    rw [putP_off as kvs _ (fun z => h (List.mem_cons_of_mem _ z)), upd_ne (fun z => h (by rw [z]; exact List.mem_cons_self))]
theorem putP_at : ∀ (as : List Addr) (kvs : List (V × V)) (H : Hp), as.length = kvs.length → as.Nodup → Paired (fun (t : Addr) (p : V × V) => putP H as kvs t = some (.tup [p.1, p.2])) as kvs
  | [], [], _, _, _ => .nil
  | [], _ :: _, _, h, _ => by cases h
  | _ :: _, [], _, h, _ => by cases h
  | a :: as, p :: kvs, H, h, hn => by
    have hn' := List.nodup_cons.mp hn
    have ih := putP_at as kvs (upd H a (.tup [p.1, p.2])) (Nat.succ.inj h) hn'.2
    refine .cons ?_ ih
    show putP (upd H a (.tup [p.1, p.2])) as kvs a = some (.tup [p.1, p.2])
    rw [putP_off as kvs _ hn'.1, upd_same]
theorem laid {X : Cx} {pins : List (Addr × Obj)} {σ : L2.St} {H : Hp} {s : Shared} {h' : Heap} {tk : Nat} {kvs : List (V × V)} {acc : Array Value} {c : Nat} {as : List Addr} {B : Addr} (I : Inv X pins σ H s) (hz : kvs.length ≤ sizeLine) (hB : s.heap.objs.size ≤ B)
    (hk : ∀ b o, s.heap.get? b = some o → h'.get? b = some o) (hS : h'.get? B = some { cls := .type "list", dict := none, data := .seq acc c, slots := #[] }) (hl : as.length = kvs.length) (nd : as.Nodup) (hab : ∀ a ∈ as, B < a)
    (hG : ∀ (j : Nat) (a : Addr), as[j]? = some a → ∃ p u v, kvs[j]? = some p ∧ RelV p.1 u ∧ RelV p.2 v ∧ h'.get? a = some { cls := .type "tuple", data := .seq #[u, v] }) (hacc : acc.toList = as.map Value.ref) :
    ∃ H' : Hp, (∀ b o, H b = some o → H' b = some o) ∧ H B = none ∧ (∀ t ∈ as, H t = none) ∧ B ∉ as ∧ H' B = some (.lst (as.map V.ref)) ∧ Paired (fun (t : Addr) (q : V × V) => H' t = some (.tup [q.1, q.2])) as kvs ∧ Inv X pins σ H' { s with heap := h', toks := tk } := by
  have hSn : B ∉ as := fun z => Nat.lt_irrefl _ (hab _ z)
  have new : ∀ t ∈ as, H t = none := fun t ht => I.hok.fresh (Nat.le_of_lt (Nat.lt_of_le_of_lt hB (hab t ht)))
  have newS : H B = none := I.hok.fresh hB
  have atP := putP_at as kvs (upd H B (.lst (as.map V.ref))) hl nd
  have off : ∀ b, b ∉ as → b ≠ B → putP (upd H B (.lst (as.map V.ref))) as kvs b = H b := fun b h1 h2 => by rw [putP_off as kvs _ h1, upd_ne h2]
  have low : ∀ b o, s.heap.get? b = some o → b ∉ as ∧ b ≠ B := fun b o e => ⟨fun z => absurd (Heap.lt_size e) (Nat.not_lt.mpr (Nat.le_of_lt (Nat.lt_of_le_of_lt hB (hab b z)))), Nat.ne_of_lt (Nat.lt_of_lt_of_le (Heap.lt_size e) hB)⟩
  have kp : ∀ b u, H b = some u → (putP (upd H B (.lst (as.map V.ref))) as kvs) b = some u := fun b u e => by
    rw [off b (fun z => by rw [new b z] at e; cases e) (fun z => by rw [z, newS] at e; cases e)]
    exact e
  have eS : putP (upd H B (.lst (as.map V.ref))) as kvs B = some (.lst (as.map V.ref)) := by rw [putP_off as kvs _ hSn, upd_same]
  refine ⟨putP (upd H B (.lst (as.map V.ref))) as kvs, kp, newS, new, hSn, eS, atP, ?_⟩
  refine I.call' (ch := []) rfl ⟨fun b o q _ _ _ => hk b o q, fun b o q _ _ _ => ⟨o.slots, hk b o q⟩, fun b o q n _ => ?_, fun b o q _ => ⟨o, hk b o q⟩, fun b xs q => kp b _ q, fun b o u q => kp b _ q, fun b ps q => ⟨#[], by rw [kp b _ q]; simp⟩⟩ (fun b u q => ?_) I.bare fun b z => by simp at z
  · obtain ⟨z1, z2⟩ := low b o q
    rw [off b z1 z2]
    exact n
  · by_cases hb : b ∈ as
    · obtain ⟨j, pk, e1, e2, e3⟩ := LiI.paired_ix atP hb
      rw [e3] at q
      cases q
      obtain ⟨p, u, v, f1, f2, f3, f4⟩ := hG j b e1
      rw [f1] at e2
      cases e2
      exact ⟨by show 2 ≤ sizeLine; decide, [u, v], .cons f2 (.cons f3 .nil), ⟨_, f4, rfl, _, rfl⟩⟩
    · by_cases hb2 : b = B
      · rw [hb2] at q ⊢
        rw [eS] at q
        cases q
        refine ⟨by rw [List.length_map]; omega, acc.toList, c, by rw [hacc]; exact LiI.vals_refs as, ?_⟩
        rw [Array.toArray_toList]
        exact hS
      · rw [off b hb hb2] at q
        exact (I.hok b u q).stay (fun d v _ y => hk d v y) (fun d y => kp d _ y) fun d xs y => kp d _ y
/-- list(zip(a, b)) -/
def rZipL (K : PySem.W.Frag) : List V → Hp → VK → Prop := fun vs H Q => ∃ (a b : Addr) (xs ys : List V), vs = [.ref a, .ref b] ∧ ((SqL K H a xs ∧ SqL K H b ys) ∨ (SqT K H a xs ∧ SqT K H b ys)) ∧
  ∀ (H' : Hp) (p : Addr) (ts : List Addr), (∀ b o, H b = some o → H' b = some o) → H p = none → (∀ t ∈ ts, H t = none) → p ∉ ts → H' p = some (.lst (ts.map V.ref)) → Paired (fun (t : Addr) (q : V × V) => H' t = some (.tup [q.1, q.2])) ts (xs.zip ys) → Q (.ref p) H'
def tListZip (K : PySem.W.Frag) (ta : TA) : TE := fun σ H Q => ta σ H fun vs H1 => rZipL K vs H1 Q
theorem pairsOf {xs ys : List V} {us vs : List Value} (r : Vals xs us) (r' : Vals ys vs) {j : Nat} {x y : Value} (hx : us.toArray[j]? = some x) (hy : vs.toArray[j]? = some y) : ∃ p, (xs.zip ys)[j]? = some p ∧ RelV p.1 x ∧ RelV p.2 y := by
  have lx := r.length
  have ly := r'.length
  have jx : j < us.length := by by_cases q : j < us.length; exact q; rw [Array.getElem?_eq_none (by simp; omega)] at hx; cases hx
  have jy : j < vs.length := by by_cases q : j < vs.length; exact q; rw [Array.getElem?_eq_none (by simp; omega)] at hy; cases hy
  have ex : xs[j]? = some (xs[j]'(by omega)) := List.getElem?_eq_getElem (by omega)
  have ey : ys[j]? = some (ys[j]'(by omega)) := List.getElem?_eq_getElem (by omega)
  obtain ⟨u, e1, g1⟩ := r.get ex
  obtain ⟨v, e2, g2⟩ := r'.get ey
  have hx' : us[j]? = some x := by simpa using hx
  have hy' : vs[j]? = some y := by simpa using hy
  rw [e1] at hx'; cases hx'
  rw [e2] at hy'; cases hy'
  exact ⟨(_, _), List.getElem?_zip_eq_some.mpr ⟨ex, ey⟩, g1, g2⟩
end ZH

set_option maxHeartbeats 4000000
/-! list(zip(a, b)) as a rule on the tracked heap. -/
namespace ZH
open PySem PySem.Spec PyProof.Rows L2
section
variable {X : Cx} {e e2 : Expr} {ta : TA} {p zp zpos pos : Pos}
theorem pe_listZip (hc : X.calm = true) (ha : PA X [e, e2] ta) (hg : Gl X "list") (hm : X.mg "list" = none) (hv : bootBuiltins "list" = some (.type "list")) (hgz : Gl X "zip") (hmz : X.mg "zip" = none)
    (hs : starEach [.Call (.Name "zip" zp) [e, e2] [] zpos] X.env = (false, eval (.Call (.Name "zip" zp) [e, e2] [] zpos) X.env) :: starEach [] X.env := by rfl)
    (hs2 : starEach [e, e2] X.env = (false, eval e X.env) :: starEach [e2] X.env := by rfl) (hpl : (backTo zpos (starEach [e2] X.env)).any (·.1) = false := by rfl) :
    PE X (.Call (.Name "list" p) [.Call (.Name "zip" zp) [e, e2] [] zpos] [] pos) (tListZip X.K ta) := by
  refine ⟨fun pins s σ H Q I hq => ?_⟩
  refine wpAny_Call_Name_kw (ld_blt I hg hm hv ?_)
  refine PyProof.Rows.callWith_type1 ?_ hs rfl
  rw [hs]
  show wpAny _ _ (spliced ((false, eval (.Call (.Name "zip" zp) [e, e2] [] zpos) X.env) :: backTo pos (starEach [] X.env))) _ _ s
  refine Calls.spliced_cons ?_
  refine Call_ (ld_blt I hgz hmz PyProof.Rows.boot_zip (PyProof.Rows.callWith_type1 (thn (ha.run zpos pins s σ H _ I hq) fun us s1 ⟨vs, H1, I1, r1, q1⟩ => ?_) hs2 hpl))
  obtain ⟨a, b, xs, ys, ex, hq, q⟩ := q1
  subst ex
  cases r1 with
  | cons r rr =>
    cases rr with
    | cons r' rr =>
      cases rr
      cases r
      cases r'
      have hh := I1.ok.hd hc
      have nxt : ∀ (its its2 : List Value) (h' : Heap) (tk : Nat) (acc : Array Value) (c : Nat) (as : List Addr), Vals xs its → Vals ys its2 → xs.length ≤ sizeLine → (∀ b o, s1.heap.get? b = some o → h'.get? b = some o) → h'.get? (s1.heap.objs.size + 5) = some { cls := .type "list", dict := none, data := .seq acc c, slots := #[] } →
          as.length = min its.toArray.size its2.toArray.size → as.Pairwise (· < ·) → (∀ a ∈ as, s1.heap.objs.size + 6 ≤ a) → (∀ (j : Nat) (a : Addr), as[j]? = some a → ∃ x y, its.toArray[j]? = some x ∧ its2.toArray[j]? = some y ∧ h'.get? a = some { cls := .type "tuple", data := .seq #[x, y] }) →
          acc.toList = as.map Value.ref → ∃ v H', Inv X pins σ H' { s1 with heap := h', toks := tk } ∧ RelV v (.ref (s1.heap.objs.size + 5)) ∧ Q v H' := by
        intro its its2 h' tk acc c as rv rv2 hz hk hS hl hr hab hG hacc
        have l1 := rv.length
        have l2 := rv2.length
        have lz : as.length = (xs.zip ys).length := by rw [hl, List.length_zip]; simp; omega
        obtain ⟨H', k1, k2, k3, k4, k5, k6, J⟩ := laid (tk := tk) (kvs := xs.zip ys) (B := s1.heap.objs.size + 5) I1 (by rw [List.length_zip]; omega) (Nat.le_add_right _ _) hk hS lz (List.Pairwise.imp (fun {a b} (h : a < b) => Nat.ne_of_lt h) hr) (fun a h => hab a h)
          (fun j a h => by
            obtain ⟨x, y, e1, e2, e3⟩ := hG j a h
            obtain ⟨p, g1, g2, g3⟩ := pairsOf rv rv2 e1 e2
            exact ⟨p, x, y, g1, g2, g3, e3⟩) hacc
        exact ⟨.ref _, H', J, rfl, q H' _ as k1 k2 k3 k4 k5 k6⟩
      rcases hq with ⟨hqx, hqy⟩ | ⟨hqx, hqy⟩
      · obtain ⟨its, rv, p1, z1⟩ := I1.list hqx
        obtain ⟨its2, rv2, p2, z2⟩ := I1.list hqy
        have lx := rv.length
        have D := PyProof.Rows.zipApart_new p1.lt p2.lt
        refine call_zip_2 p1.isList p2.isList fun h' hz hTI hTO h1 h2 hsz hk => ?_
        refine Calls.spliced_nil ?_
        refine PySem.ZL.z_call (s := { s1 with heap := h' }) (n := min its.toArray.size its2.toArray.size) hh D rfl (by simp; omega) hz hTI ⟨_, _, hTO⟩ h1 h2 (let ⟨o, e, q⟩ := p1.isList; ⟨o, hk _ _ e, q⟩) (let ⟨o, e, q⟩ := p2.isList; ⟨o, hk _ _ e, q⟩) fun h'' tk acc c as hk' hS hl hG hacc => ?_
        dsimp only at hS hG ⊢
        rw [hsz] at hS hG ⊢
        refine nxt its its2 h'' tk acc c as rv rv2 z1 (fun b o e => ?_) hS hl hG.rise hG.above hG.pairs hacc
        have lb := Heap.lt_size e
        exact hk' b o (Nat.ne_of_lt (Nat.lt_add_right 4 lb)) (Nat.ne_of_lt (Nat.lt_add_right 3 lb)) (Nat.ne_of_lt lb) (Nat.ne_of_lt (Nat.lt_add_right 1 lb)) (hk b o e)
      · obtain ⟨its, rv, p1, z1⟩ := I1.tuple hqx
        obtain ⟨its2, rv2, p2, z2⟩ := I1.tuple hqy
        obtain ⟨o1, ho1, _⟩ := id p1
        obtain ⟨o2, ho2, _⟩ := id p2
        have lx := rv.length
        have t1 : s1.heap.IsTuple a its.toArray := p1
        have t2 : s1.heap.IsTuple b its2.toArray := p2
        have D := PyProof.Rows.zipApart_new (Heap.lt_size ho1) (Heap.lt_size ho2)
        refine RZ.call_zipT t1 t2 fun h' hz hTI hTO h1 h2 hsz hk => ?_
        refine Calls.spliced_nil ?_
        refine PySem.ZT.z_call (s := { s1 with heap := h' }) (n := min its.toArray.size its2.toArray.size) hh D rfl (by simp; omega) hz hTI ⟨_, _, hTO⟩ h1 h2 (let ⟨o, e, q⟩ := t1; ⟨o, hk _ _ e, q⟩) (let ⟨o, e, q⟩ := t2; ⟨o, hk _ _ e, q⟩) fun h'' tk acc c as hk' hS hl hG hacc => ?_
        dsimp only at hS hG ⊢
        rw [hsz] at hS hG ⊢
        refine nxt its its2 h'' tk acc c as rv rv2 z1 (fun b o e => ?_) hS hl hG.rise hG.above hG.pairs hacc
        have lb := Heap.lt_size e
        exact hk' b o (Nat.ne_of_lt (Nat.lt_add_right 4 lb)) (Nat.ne_of_lt (Nat.lt_add_right 3 lb)) (Nat.ne_of_lt lb) (Nat.ne_of_lt (Nat.lt_add_right 1 lb)) (hk b o e)
end
end ZH

set_option maxHeartbeats 4000000
/-! Ev, part A: plain data, what it stands for in the abstract heap, ownership. -/
namespace Ev
open PySem PySem.Spec PyProof.Rows L2
/-- plain data: what a Python value is worth -/
inductive D where
  | non | bl (b : Bool) | int (i : Int) | str (x : Str)
  | tup (xs : List D) | lst (xs : List D)
  | dic (ks : List Key) (vs : List D)
  | ins (c : Nat) (fs : List D)
  | lck (ns : List Int)
  | cl (c : Nat)
  | xv
/-- the program's classes: name, fields in the order of their making -/
structure Cl where
  name : Str
  fields : List Str
def clsT : Nat → Cl
  | 0 => ⟨"Library", ["_locks", "_hook_rows", "_routine_rows", "_entries"]⟩
  | 1 => ⟨"Reader", ["known", "lock_names", "hook_rows", "routine_rows", "entry_names", "call_lengths", "expected", "part", "current", "body", "taken", "cost"]⟩
  | 2 => ⟨"Thread", ["_library", "_frames", "_held", "_pending", "_length", "_run"]⟩
  | 3 => ⟨"Machine", ["_library", "_reentrant", "_threads", "_steps"]⟩
  | 4 => ⟨"Search", ["library", "held_there", "before", "late_ways", "settled", "candidates"]⟩
  | 5 => ⟨"Table", ["_locks", "_lengths", "rows"]⟩
  | 6 => ⟨"Unsafe", ["reentrant", "_library", "requests", "total", "threads", "schedule"]⟩
  | _ => ⟨"Safe", ["reentrant", "contexts", "chains"]⟩
def clsA (K : PySem.W.Frag) (c : Nat) : Addr := He.ga K (clsT c).name
mutual
/-- the value v stands for d, by objects of H -/
def Is (K : PySem.W.Frag) (H : Hp) : D → V → Prop
  | .non, v => v = .non
  | .bl b, v => v = .bl b
  | .int i, v => v = .int i
  | .str x, v => v = .str x ∧ PyData.strOk x = true
  | .tup ds, v => ∃ a vs, v = .ref a ∧ H a = some (.tup vs) ∧ IsL K H ds vs
  | .lst ds, v => ∃ a vs, v = .ref a ∧ H a = some (.lst vs) ∧ IsL K H ds vs
  | .dic ks ds, v => ∃ a kvs, v = .ref a ∧ H a = some (.dK kvs) ∧ kvs.map (·.1) = ks ∧ IsL K H ds (kvs.map (·.2))
  | .ins c ds, v => ∃ a dx vs, v = .ref a ∧ H a = some (.ins (clsA K c) dx ((clsT c).fields.zip vs)) ∧ vs.length ≤ (clsT c).fields.length ∧ IsL K H ds vs
  | .lck ns, v => ∃ a, v = .ref a ∧ SqL K H a (ns.map V.int)
  | .cl c, v => v = .ref (clsA K c)
  | .xv, v => ∃ a, v = .ref a
def IsL (K : PySem.W.Frag) (H : Hp) : List D → List V → Prop
  | [], vs => vs = []
  | d :: ds, vs => ∃ v r, vs = v :: r ∧ Is K H d v ∧ IsL K H ds r
end
variable {K : PySem.W.Frag} {F G H F' G' H' : Hp}
theorem Is.str {x : Str} (h : PyData.strOk x = true) : Is K H (.str x) (.str x) := by
  simp only [Is]
  exact ⟨trivial, h⟩
mutual
theorem Is.mono (s : Same H H') : ∀ {d : D} {v : V}, Is K H d v → Is K H' d v
  | .non, _, h => h
  | .bl _, _, h => h
  | .int _, _, h => h
  | .str _, _, h => h
  | .tup ds, _, h => by
    simp only [Is] at h ⊢
    obtain ⟨a, vs, e, h1, h2⟩ := h
    exact ⟨a, vs, e, s _ _ h1, IsL.mono s h2⟩
  | .lst ds, _, h => by
    simp only [Is] at h ⊢
    obtain ⟨a, vs, e, h1, h2⟩ := h
    exact ⟨a, vs, e, s _ _ h1, IsL.mono s h2⟩
  | .dic ks ds, _, h => by
    simp only [Is] at h ⊢
    obtain ⟨a, kvs, e, h1, h2, h3⟩ := h
    exact ⟨a, kvs, e, s _ _ h1, h2, IsL.mono s h3⟩
  | .ins c ds, _, h => by
    simp only [Is] at h ⊢
    obtain ⟨a, dx, vs, e, h1, h2, h3⟩ := h
    exact ⟨a, dx, vs, e, s _ _ h1, h2, IsL.mono s h3⟩
  | .cl _, _, h => h
  | .xv, _, h => h
  | .lck ns, _, h => by
    simp only [Is] at h ⊢
    obtain ⟨a, e, h1⟩ := h
    exact ⟨a, e, s.seq h1⟩
theorem IsL.mono (s : Same H H') : ∀ {ds : List D} {vs : List V}, IsL K H ds vs → IsL K H' ds vs
  | [], _, h => h
  | d :: ds, _, h => by
    simp only [IsL] at h ⊢
    obtain ⟨v, r, e, h1, h2⟩ := h
    exact ⟨v, r, e, Is.mono s h1, IsL.mono s h2⟩
end
theorem IsL.length : ∀ {ds : List D} {vs : List V}, IsL K H ds vs → vs.length = ds.length
  | [], _, h => by simp only [IsL] at h; rw [h]; rfl
  | d :: ds, _, h => by
    simp only [IsL] at h
    obtain ⟨v, r, rfl, _, h2⟩ := h
    rw [List.length_cons, List.length_cons, IsL.length h2]
theorem IsL.get : ∀ {ds : List D} {vs : List V} {i : Nat} {d : D}, IsL K H ds vs → ds[i]? = some d → ∃ v, vs[i]? = some v ∧ Is K H d v
  | [], _, _, _, _, e => by simp at e
  | d :: ds, _, 0, _, h, e => by
    simp only [IsL] at h
    obtain ⟨v, r, rfl, h1, _⟩ := h
    simp at e; subst e
    exact ⟨v, rfl, h1⟩
  | d :: ds, _, i + 1, _, h, e => by
    simp only [IsL] at h
    obtain ⟨v, r, rfl, _, h2⟩ := h
    obtain ⟨w, hw, h3⟩ := IsL.get (i := i) h2 (by simpa using e)
    exact ⟨w, by simpa using hw, h3⟩
theorem IsL.getV : ∀ {ds : List D} {vs : List V} {i : Nat} {v : V}, IsL K H ds vs → vs[i]? = some v → ∃ d, ds[i]? = some d ∧ Is K H d v := fun {ds vs i v} h e => by
  have hl := h.length
  have hi : i < ds.length := by rw [← hl]; exact (List.getElem?_eq_some_iff.mp e).1
  obtain ⟨w, hw, h3⟩ := h.get (i := i) (d := ds[i]) (List.getElem?_eq_getElem hi)
  rw [e] at hw; cases hw
  exact ⟨_, List.getElem?_eq_getElem hi, h3⟩
theorem IsL.append : ∀ {ds es : List D} {vs ws : List V}, IsL K H ds vs → IsL K H es ws → IsL K H (ds ++ es) (vs ++ ws)
  | [], _, _, _, h, h2 => by simp only [IsL] at h; subst h; exact h2
  | d :: ds, _, _, _, h, h2 => by
    simp only [IsL] at h
    obtain ⟨v, r, rfl, h3, h4⟩ := h
    exact ⟨v, _, rfl, h3, IsL.append h4 h2⟩
theorem IsL.take : ∀ (n : Nat) {ds : List D} {vs : List V}, IsL K H ds vs → IsL K H (ds.take n) (vs.take n)
  | 0, _, _, _ => by simp [IsL]
  | n + 1, [], _, h => by simp only [IsL] at h; subst h; simp [IsL]
  | n + 1, d :: ds, _, h => by
    simp only [IsL] at h
    obtain ⟨v, r, rfl, h3, h4⟩ := h
    exact ⟨v, _, rfl, h3, IsL.take n h4⟩
theorem IsL.drop : ∀ (n : Nat) {ds : List D} {vs : List V}, IsL K H ds vs → IsL K H (ds.drop n) (vs.drop n)
  | 0, _, _, h => h
  | n + 1, [], _, h => by simp only [IsL] at h; subst h; simp [IsL]
  | n + 1, d :: ds, _, h => by
    simp only [IsL] at h
    obtain ⟨v, r, rfl, h3, h4⟩ := h
    exact IsL.drop n h4
theorem IsL.set : ∀ (i : Nat) {ds : List D} {vs : List V} {d : D} {v : V}, IsL K H ds vs → Is K H d v → IsL K H (ds.set i d) (vs.set i v)
  | _, [], _, _, _, h, _ => by simp only [IsL] at h; subst h; simp [IsL]
  | 0, e :: ds, _, d, v, h, h1 => by
    simp only [IsL] at h
    obtain ⟨w, r, rfl, _, h4⟩ := h
    exact ⟨v, r, rfl, h1, h4⟩
  | i + 1, e :: ds, _, d, v, h, h1 => by
    simp only [IsL] at h
    obtain ⟨w, r, rfl, h3, h4⟩ := h
    exact ⟨w, _, rfl, h3, IsL.set i h4 h1⟩
theorem IsL.rev {ds : List D} : ∀ {vs : List V}, IsL K H ds vs → IsL K H ds.reverse vs.reverse := by
  induction ds with
  | nil => intro vs h; simp only [IsL] at h; subst h; simp [IsL]
  | cons d ds ih =>
    intro vs h
    simp only [IsL] at h
    obtain ⟨v, r, rfl, h3, h4⟩ := h
    rw [List.reverse_cons, List.reverse_cons]
    exact (ih h4).append ⟨v, [], rfl, h3, rfl⟩

/-! ### ownership: what may be changed -/
inductive OT where
  | fz | bw | lst (o : OT) | dic | ins (os : List OT)
/-- seen by its items alone (bw): a list or a dict whose items are frozen, or frozen itself -/
def Bw (K : PySem.W.Frag) (F H : Hp) (d : D) (v : V) (A : List Addr) : Prop :=
  (A = [] ∧ Is K F d v) ∨ (∃ ds a vs, d = .lst ds ∧ v = .ref a ∧ H a = some (.lst vs) ∧ IsL K F ds vs ∧ A = [a]) ∨
    (∃ ks ds a kvs, d = .dic ks ds ∧ v = .ref a ∧ H a = some (.dK kvs) ∧ kvs.map (·.1) = ks ∧ IsL K F ds (kvs.map (·.2)) ∧ A = [a])
theorem Bw.frame {d : D} {v : V} {A : List Addr} (s : Same F F') (h : Bw K F H d v A) (k : ∀ a ∈ A, H' a = H a) : Bw K F' H' d v A := by
  rcases h with ⟨e, h⟩ | ⟨ds, a, vs, e1, e2, h1, h2, rfl⟩ | ⟨ks, ds, a, kvs, e1, e2, h1, h2, h3, rfl⟩
  · exact .inl ⟨e, h.mono s⟩
  · exact .inr (.inl ⟨ds, a, vs, e1, e2, (k a (by simp)).trans h1, h2.mono s, rfl⟩)
  · exact .inr (.inr ⟨ks, ds, a, kvs, e1, e2, (k a (by simp)).trans h1, h2, h3.mono s, rfl⟩)
theorem Bw.there {d : D} {v : V} {A : List Addr} (h : Bw K F H d v A) : ∀ a ∈ A, H a ≠ none := by
  intro b hb
  rcases h with ⟨e, h⟩ | ⟨ds, a, vs, e1, e2, h1, h2, rfl⟩ | ⟨ks, ds, a, kvs, e1, e2, h1, h2, h3, rfl⟩
  · rw [e] at hb; cases hb
  · rcases List.mem_cons.mp hb with rfl | hb
    · rw [h1]; simp
    · cases hb
  · rcases List.mem_cons.mp hb with rfl | hb
    · rw [h1]; simp
    · cases hb
theorem Bw.freeze {d : D} {v : V} {A : List Addr} (s : Same F F') (h : Bw K F H d v A) (k : ∀ a ∈ A, F' a = H a) : Is K F' d v := by
  rcases h with ⟨e, h⟩ | ⟨ds, a, vs, rfl, e2, h1, h2, rfl⟩ | ⟨ks, ds, a, kvs, rfl, e2, h1, h2, h3, rfl⟩
  · exact h.mono s
  · simp only [Is]
    exact ⟨a, vs, e2, (k a (by simp)).trans h1, h2.mono s⟩
  · simp only [Is]
    exact ⟨a, kvs, e2, (k a (by simp)).trans h1, h2, h3.mono s⟩
mutual
/-- d stands at v, changeable as o says; the changeable objects stand in H at A, the rest is d's by F -/
def Own (K : PySem.W.Frag) (F H : Hp) : OT → D → V → List Addr → Prop
  | .fz, d, v, A => A = [] ∧ Is K F d v
  | .bw, d, v, A => Bw K F H d v A
  | .lst o, .lst ds, v, A => ∃ a vs B, v = .ref a ∧ H a = some (.lst vs) ∧ OwnL K F H o ds vs B ∧ A = a :: B
  | .dic, .dic ks ds, v, A => ∃ a kvs, v = .ref a ∧ H a = some (.dK kvs) ∧ kvs.map (·.1) = ks ∧ IsL K F ds (kvs.map (·.2)) ∧ A = [a]
  | .ins os, .ins c ds, v, A => ∃ a dx vs B, v = .ref a ∧ H a = some (.ins (clsA K c) dx ((clsT c).fields.zip vs)) ∧ vs.length ≤ (clsT c).fields.length ∧ OwnS K F H os ds vs B ∧ A = a :: B
  | _, _, _, _ => False
def OwnL (K : PySem.W.Frag) (F H : Hp) : OT → List D → List V → List Addr → Prop
  | _, [], vs, A => vs = [] ∧ A = []
  | o, d :: ds, vs, A => ∃ v r A1 A2, vs = v :: r ∧ Own K F H o d v A1 ∧ OwnL K F H o ds r A2 ∧ A = A1 ++ A2
def OwnS (K : PySem.W.Frag) (F H : Hp) : List OT → List D → List V → List Addr → Prop
  | _, [], vs, A => vs = [] ∧ A = []
  | o :: os, d :: ds, vs, A => ∃ v r A1 A2, vs = v :: r ∧ Own K F H o d v A1 ∧ OwnS K F H os ds r A2 ∧ A = A1 ++ A2
  | _, _, _, _ => False
end
mutual
/-- F may grow, the objects at A are kept -/
theorem Own.frame (s : Same F F') : ∀ {o : OT} {d : D} {v : V} {A : List Addr}, Own K F H o d v A → (∀ a ∈ A, H' a = H a) → Own K F' H' o d v A
  | .fz, d, v, A, h, _ => by
    simp only [Own] at h ⊢
    exact ⟨h.1, h.2.mono s⟩
  | .bw, d, v, A, h, k => by
    simp only [Own] at h ⊢
    exact h.frame s k
  | .lst o, .lst ds, v, A, h, k => by
    simp only [Own] at h ⊢
    obtain ⟨a, vs, B, e, h1, h2, rfl⟩ := h
    exact ⟨a, vs, B, e, (k a (by simp)).trans h1, OwnL.frame s h2 fun b hb => k b (by simp [hb]), rfl⟩
  | .dic, .dic ks ds, v, A, h, k => by
    simp only [Own] at h ⊢
    obtain ⟨a, kvs, e, h1, h2, h3, rfl⟩ := h
    exact ⟨a, kvs, e, (k a (by simp)).trans h1, h2, h3.mono s, rfl⟩
  | .ins os, .ins c ds, v, A, h, k => by
    simp only [Own] at h ⊢
    obtain ⟨a, dx, vs, B, e, h1, h2, h3, rfl⟩ := h
    exact ⟨a, dx, vs, B, e, (k a (by simp)).trans h1, h2, OwnS.frame s h3 fun b hb => k b (by simp [hb]), rfl⟩
  | .lst _, .non, _, _, h, _ => by simp [Own] at h
  | .lst _, .bl _, _, _, h, _ => by simp [Own] at h
  | .lst _, .int _, _, _, h, _ => by simp [Own] at h
  | .lst _, .str _, _, _, h, _ => by simp [Own] at h
  | .lst _, .tup _, _, _, h, _ => by simp [Own] at h
  | .lst _, .dic _ _, _, _, h, _ => by simp [Own] at h
  | .lst _, .ins _ _, _, _, h, _ => by simp [Own] at h
  | .lst _, .lck _, _, _, h, _ => by simp [Own] at h
  | .lst _, .cl _, _, _, h, _ => by simp [Own] at h
  | .lst _, .xv, _, _, h, _ => by simp [Own] at h
  | .dic, .non, _, _, h, _ => by simp [Own] at h
  | .dic, .bl _, _, _, h, _ => by simp [Own] at h
  | .dic, .int _, _, _, h, _ => by simp [Own] at h
  | .dic, .str _, _, _, h, _ => by simp [Own] at h
  | .dic, .tup _, _, _, h, _ => by simp [Own] at h
  | .dic, .lst _, _, _, h, _ => by simp [Own] at h
  | .dic, .ins _ _, _, _, h, _ => by simp [Own] at h
  | .dic, .lck _, _, _, h, _ => by simp [Own] at h
  | .dic, .cl _, _, _, h, _ => by simp [Own] at h
  | .dic, .xv, _, _, h, _ => by simp [Own] at h
  | .ins _, .non, _, _, h, _ => by simp [Own] at h
  | .ins _, .bl _, _, _, h, _ => by simp [Own] at h
  | .ins _, .int _, _, _, h, _ => by simp [Own] at h
  | .ins _, .str _, _, _, h, _ => by simp [Own] at h
  | .ins _, .tup _, _, _, h, _ => by simp [Own] at h
  | .ins _, .lst _, _, _, h, _ => by simp [Own] at h
  | .ins _, .dic _ _, _, _, h, _ => by simp [Own] at h
  | .ins _, .lck _, _, _, h, _ => by simp [Own] at h
  | .ins _, .cl _, _, _, h, _ => by simp [Own] at h
  | .ins _, .xv, _, _, h, _ => by simp [Own] at h
theorem OwnL.frame (s : Same F F') : ∀ {o : OT} {ds : List D} {vs : List V} {A : List Addr}, OwnL K F H o ds vs A → (∀ a ∈ A, H' a = H a) → OwnL K F' H' o ds vs A
  | _, [], _, _, h, _ => by simpa only [OwnL] using h
  | o, d :: ds, _, _, h, k => by
    simp only [OwnL] at h ⊢
    obtain ⟨v, r, A1, A2, e, h1, h2, rfl⟩ := h
    exact ⟨v, r, A1, A2, e, Own.frame s h1 fun b hb => k b (by simp [hb]), OwnL.frame s h2 fun b hb => k b (by simp [hb]), rfl⟩
theorem OwnS.frame (s : Same F F') : ∀ {os : List OT} {ds : List D} {vs : List V} {A : List Addr}, OwnS K F H os ds vs A → (∀ a ∈ A, H' a = H a) → OwnS K F' H' os ds vs A
  | _, [], _, _, h, _ => by simpa only [OwnS] using h
  | o :: os, d :: ds, _, _, h, k => by
    simp only [OwnS] at h ⊢
    obtain ⟨v, r, A1, A2, e, h1, h2, rfl⟩ := h
    exact ⟨v, r, A1, A2, e, Own.frame s h1 fun b hb => k b (by simp [hb]), OwnS.frame s h2 fun b hb => k b (by simp [hb]), rfl⟩
  | [], _ :: _, _, _, h, _ => by simp [OwnS] at h
end
end Ev

set_option maxHeartbeats 4000000
/-! Ev, part B: growth, the frame of names. -/
namespace Ev
open PySem PySem.Spec PyProof.Rows L2
variable {K : PySem.W.Frag} {F G H F' G' H' F0 : Hp}
/-! ### what stands, stands -/
mutual
theorem Own.there : ∀ {o : OT} {d : D} {v : V} {A : List Addr}, Own K F H o d v A → ∀ a ∈ A, H a ≠ none
  | .fz, d, v, A, h, a, ha => by
    simp only [Own] at h
    rw [h.1] at ha; cases ha
  | .bw, d, v, A, h, a, ha => by
    simp only [Own] at h
    exact h.there a ha
  | .lst o, .lst ds, v, A, h, b, hb => by
    simp only [Own] at h
    obtain ⟨a, vs, B, e, h1, h2, rfl⟩ := h
    rcases List.mem_cons.mp hb with rfl | hb
    · rw [h1]; simp
    · exact OwnL.there h2 b hb
  | .dic, .dic ks ds, v, A, h, b, hb => by
    simp only [Own] at h
    obtain ⟨a, kvs, e, h1, h2, h3, rfl⟩ := h
    rcases List.mem_cons.mp hb with rfl | hb
    · rw [h1]; simp
    · cases hb
  | .ins os, .ins c ds, v, A, h, b, hb => by
    simp only [Own] at h
    obtain ⟨a, dx, vs, B, e, h1, h2, h3, rfl⟩ := h
    rcases List.mem_cons.mp hb with rfl | hb
    · rw [h1]; simp
    · exact OwnS.there h3 b hb
  | .lst _, .non, _, _, h, _, _ => by simp [Own] at h
  | .lst _, .bl _, _, _, h, _, _ => by simp [Own] at h
  | .lst _, .int _, _, _, h, _, _ => by simp [Own] at h
  | .lst _, .str _, _, _, h, _, _ => by simp [Own] at h
  | .lst _, .tup _, _, _, h, _, _ => by simp [Own] at h
  | .lst _, .dic _ _, _, _, h, _, _ => by simp [Own] at h
  | .lst _, .ins _ _, _, _, h, _, _ => by simp [Own] at h
  | .lst _, .lck _, _, _, h, _, _ => by simp [Own] at h
  | .lst _, .cl _, _, _, h, _, _ => by simp [Own] at h
  | .lst _, .xv, _, _, h, _, _ => by simp [Own] at h
  | .dic, .non, _, _, h, _, _ => by simp [Own] at h
  | .dic, .bl _, _, _, h, _, _ => by simp [Own] at h
  | .dic, .int _, _, _, h, _, _ => by simp [Own] at h
  | .dic, .str _, _, _, h, _, _ => by simp [Own] at h
  | .dic, .tup _, _, _, h, _, _ => by simp [Own] at h
  | .dic, .lst _, _, _, h, _, _ => by simp [Own] at h
  | .dic, .ins _ _, _, _, h, _, _ => by simp [Own] at h
  | .dic, .lck _, _, _, h, _, _ => by simp [Own] at h
  | .dic, .cl _, _, _, h, _, _ => by simp [Own] at h
  | .dic, .xv, _, _, h, _, _ => by simp [Own] at h
  | .ins _, .non, _, _, h, _, _ => by simp [Own] at h
  | .ins _, .bl _, _, _, h, _, _ => by simp [Own] at h
  | .ins _, .int _, _, _, h, _, _ => by simp [Own] at h
  | .ins _, .str _, _, _, h, _, _ => by simp [Own] at h
  | .ins _, .tup _, _, _, h, _, _ => by simp [Own] at h
  | .ins _, .lst _, _, _, h, _, _ => by simp [Own] at h
  | .ins _, .dic _ _, _, _, h, _, _ => by simp [Own] at h
  | .ins _, .lck _, _, _, h, _, _ => by simp [Own] at h
  | .ins _, .cl _, _, _, h, _, _ => by simp [Own] at h
  | .ins _, .xv, _, _, h, _, _ => by simp [Own] at h
theorem OwnL.there : ∀ {o : OT} {ds : List D} {vs : List V} {A : List Addr}, OwnL K F H o ds vs A → ∀ a ∈ A, H a ≠ none
  | _, [], _, _, h, a, ha => by
    simp only [OwnL] at h
    rw [h.2] at ha; cases ha
  | o, d :: ds, _, _, h, a, ha => by
    simp only [OwnL] at h
    obtain ⟨v, r, A1, A2, e, h1, h2, rfl⟩ := h
    rcases List.mem_append.mp ha with ha | ha
    · exact Own.there h1 a ha
    · exact OwnL.there h2 a ha
theorem OwnS.there : ∀ {os : List OT} {ds : List D} {vs : List V} {A : List Addr}, OwnS K F H os ds vs A → ∀ a ∈ A, H a ≠ none
  | _, [], _, _, h, a, ha => by
    simp only [OwnS] at h
    rw [h.2] at ha; cases ha
  | o :: os, d :: ds, _, _, h, a, ha => by
    simp only [OwnS] at h
    obtain ⟨v, r, A1, A2, e, h1, h2, rfl⟩ := h
    rcases List.mem_append.mp ha with ha | ha
    · exact Own.there h1 a ha
    · exact OwnS.there h2 a ha
  | [], _ :: _, _, _, h, _, _ => by simp [OwnS] at h
end
mutual
/-- what is owned may be frozen -/
theorem Own.freeze (s : Same F F') : ∀ {o : OT} {d : D} {v : V} {A : List Addr}, Own K F H o d v A → (∀ a ∈ A, F' a = H a) → Is K F' d v
  | .fz, d, v, A, h, _ => by
    simp only [Own] at h
    exact h.2.mono s
  | .bw, d, v, A, h, k => by
    simp only [Own] at h
    exact h.freeze s k
  | .lst o, .lst ds, v, A, h, k => by
    simp only [Own] at h
    obtain ⟨a, vs, B, e, h1, h2, rfl⟩ := h
    simp only [Is]
    exact ⟨a, vs, e, (k a (by simp)).trans h1, OwnL.freeze s h2 fun b hb => k b (by simp [hb])⟩
  | .dic, .dic ks ds, v, A, h, k => by
    simp only [Own] at h
    obtain ⟨a, kvs, e, h1, h2, h3, rfl⟩ := h
    simp only [Is]
    exact ⟨a, kvs, e, (k a (by simp)).trans h1, h2, h3.mono s⟩
  | .ins os, .ins c ds, v, A, h, k => by
    simp only [Own] at h
    obtain ⟨a, dx, vs, B, e, h1, h2, h3, rfl⟩ := h
    simp only [Is]
    exact ⟨a, dx, vs, e, (k a (by simp)).trans h1, h2, OwnS.freeze s h3 fun b hb => k b (by simp [hb])⟩
  | .lst _, .non, _, _, h, _ => by simp [Own] at h
  | .lst _, .bl _, _, _, h, _ => by simp [Own] at h
  | .lst _, .int _, _, _, h, _ => by simp [Own] at h
  | .lst _, .str _, _, _, h, _ => by simp [Own] at h
  | .lst _, .tup _, _, _, h, _ => by simp [Own] at h
  | .lst _, .dic _ _, _, _, h, _ => by simp [Own] at h
  | .lst _, .ins _ _, _, _, h, _ => by simp [Own] at h
  | .lst _, .lck _, _, _, h, _ => by simp [Own] at h
  | .lst _, .cl _, _, _, h, _ => by simp [Own] at h
  | .lst _, .xv, _, _, h, _ => by simp [Own] at h
  | .dic, .non, _, _, h, _ => by simp [Own] at h
  | .dic, .bl _, _, _, h, _ => by simp [Own] at h
  | .dic, .int _, _, _, h, _ => by simp [Own] at h
  | .dic, .str _, _, _, h, _ => by simp [Own] at h
  | .dic, .tup _, _, _, h, _ => by simp [Own] at h
  | .dic, .lst _, _, _, h, _ => by simp [Own] at h
  | .dic, .ins _ _, _, _, h, _ => by simp [Own] at h
  | .dic, .lck _, _, _, h, _ => by simp [Own] at h
  | .dic, .cl _, _, _, h, _ => by simp [Own] at h
  | .dic, .xv, _, _, h, _ => by simp [Own] at h
  | .ins _, .non, _, _, h, _ => by simp [Own] at h
  | .ins _, .bl _, _, _, h, _ => by simp [Own] at h
  | .ins _, .int _, _, _, h, _ => by simp [Own] at h
  | .ins _, .str _, _, _, h, _ => by simp [Own] at h
  | .ins _, .tup _, _, _, h, _ => by simp [Own] at h
  | .ins _, .lst _, _, _, h, _ => by simp [Own] at h
  | .ins _, .dic _ _, _, _, h, _ => by simp [Own] at h
  | .ins _, .lck _, _, _, h, _ => by simp [Own] at h
  | .ins _, .cl _, _, _, h, _ => by simp [Own] at h
  | .ins _, .xv, _, _, h, _ => by simp [Own] at h
theorem OwnL.freeze (s : Same F F') : ∀ {o : OT} {ds : List D} {vs : List V} {A : List Addr}, OwnL K F H o ds vs A → (∀ a ∈ A, F' a = H a) → IsL K F' ds vs
  | _, [], _, _, h, _ => by
    simp only [OwnL] at h
    rw [h.1]; rfl
  | o, d :: ds, _, _, h, k => by
    simp only [OwnL] at h
    obtain ⟨v, r, A1, A2, rfl, h1, h2, rfl⟩ := h
    exact ⟨v, r, rfl, Own.freeze s h1 fun b hb => k b (by simp [hb]), OwnL.freeze s h2 fun b hb => k b (by simp [hb])⟩
theorem OwnS.freeze (s : Same F F') : ∀ {os : List OT} {ds : List D} {vs : List V} {A : List Addr}, OwnS K F H os ds vs A → (∀ a ∈ A, F' a = H a) → IsL K F' ds vs
  | _, [], _, _, h, _ => by
    simp only [OwnS] at h
    rw [h.1]; rfl
  | o :: os, d :: ds, _, _, h, k => by
    simp only [OwnS] at h
    obtain ⟨v, r, A1, A2, rfl, h1, h2, rfl⟩ := h
    exact ⟨v, r, rfl, Own.freeze s h1 fun b hb => k b (by simp [hb]), OwnS.freeze s h2 fun b hb => k b (by simp [hb])⟩
  | [], _ :: _, _, _, h, _ => by simp [OwnS] at h
end
/-- seen now -/
theorem Own.see {o : OT} {d : D} {v : V} {A : List Addr} (h : Own K F H o d v A) (s : Same F H) : Is K H d v := h.freeze s fun _ _ => rfl
theorem Own.of_is {d : D} {v : V} (h : Is K F d v) : Own K F H .fz d v [] := by simp only [Own]; exact ⟨trivial, h⟩
theorem Own.is {d : D} {v : V} {A : List Addr} (h : Own K F H .fz d v A) : Is K F d v := by simp only [Own] at h; exact h.2

/-! ### growth -/
structure Up (F H F' H' : Hp) : Prop where
  ff : Same F F'
  hh : Same H H'
  fr : ∀ a, F a = none → H a ≠ none → F' a = none
  fh : Same F' H'
theorem Same.some {H H' : Hp} (s : Same H H') {a : Addr} (h : H a ≠ none) : H' a ≠ none := by
  cases e : H a with
  | none => exact absurd e h
  | some o => rw [s a o e]; simp
theorem Same.eq {H H' : Hp} (s : Same H H') {a : Addr} (h : H a ≠ none) : H' a = H a := by
  cases e : H a with
  | none => exact absurd e h
  | some o => exact s a o e
theorem Up.refl (h : Same F H) : Up F H F H := ⟨Same.refl _, Same.refl _, fun _ e _ => e, h⟩
theorem Up.trans {F1 H1 F2 H2 : Hp} (a : Up F H F1 H1) (b : Up F1 H1 F2 H2) : Up F H F2 H2 :=
  ⟨a.ff.trans b.ff, a.hh.trans b.hh, fun x e h => b.fr x (a.fr x e h) (Same.some a.hh h), b.fh⟩
theorem Own.up {o : OT} {d : D} {v : V} {A : List Addr} (h : Own K F H o d v A) (u : Up F H F' H') : Own K F' H' o d v A :=
  h.frame u.ff fun a ha => Same.eq u.hh (h.there a ha)
theorem Is.up {d : D} {v : V} (h : Is K F d v) (u : Up F H F' H') : Is K F' d v := h.mono u.ff
/-- a new object, tracked; not frozen -/
theorem Up.new (s : Same F H) {p : Addr} {o : HO} (hp : H p = none) : Up F H F (upd H p o) :=
  ⟨Same.refl _, fun b o e => by rw [upd_ne (ne_of_none e hp)]; exact e, fun _ e _ => e, fun b o e => by rw [upd_ne (ne_of_none (s _ _ e) hp)]; exact s _ _ e⟩
/-- .. frozen at once -/
theorem Up.newF (s : Same F H) {p : Addr} {o : HO} (hp : H p = none) : Up F H (upd F p o) (upd H p o) := by
  have fp : F p = none := by
    cases e : F p with
    | none => rfl
    | some u => rw [s _ _ e] at hp; cases hp
  refine ⟨fun b u e => ?_, fun b u e => ?_, fun a e h => ?_, fun b u e => ?_⟩
  · rw [upd_ne (ne_of_none e fp)]; exact e
  · rw [upd_ne (ne_of_none e hp)]; exact e
  · have : a ≠ p := fun z => h (z ▸ hp)
    rw [upd_ne this]; exact e
  · by_cases hb : b = p
    · subst hb; rw [upd_same] at e ⊢; exact e
    · rw [upd_ne hb] at e ⊢; exact s _ _ e
/-- to freeze at A -/
noncomputable def frz (F H : Hp) (A : List Addr) : Hp := by
  classical
  exact fun a => if a ∈ A then H a else F a
theorem frz_in {A : List Addr} {a : Addr} (h : a ∈ A) : frz F H A a = H a := by
  classical
  unfold frz; rw [if_pos h]
theorem frz_out {A : List Addr} {a : Addr} (h : a ∉ A) : frz F H A a = F a := by
  classical
  unfold frz; rw [if_neg h]
theorem frz_ff (s : Same F H) {A : List Addr} : Same F (frz F H A) := fun b u e => by
  by_cases hb : b ∈ A
  · rw [frz_in hb]; exact s _ _ e
  · rw [frz_out hb]; exact e
theorem frz_fh (s : Same F H) {A : List Addr} : Same (frz F H A) H := fun b u e => by
  by_cases hb : b ∈ A
  · rw [frz_in hb] at e; exact e
  · rw [frz_out hb] at e; exact s _ _ e
/-- what was made since (F1, H1) is frozen -/
theorem Up.freeze {F1 H1 : Hp} (u : Up F1 H1 F H) {A : List Addr} (n : ∀ a ∈ A, H1 a = none) : Up F1 H1 (frz F H A) H :=
  ⟨u.ff.trans (frz_ff u.fh), u.hh, fun a e h => by
    rw [frz_out fun ha => h (n a ha)]; exact u.fr a e h, frz_fh u.fh⟩

/-! ### the names of a body -/
inductive Kd where
  | ve (o : OT) | ow (o : OT) | pn (o : OT) (v : V) | rd (o : OT) (v : V)
def Kd.ot : Kd → OT
  | .ve o => o
  | .ow o => o
  | .pn o _ => o
  | .rd o _ => o
/-- a slot: k its kind, d its datum -/
def SlotOk (K : PySem.W.Frag) (F G H : Hp) (k : Kd) (d : D) (v : V) (A : List Addr) : Prop := match k with
  | .ve o => ∃ B, Own K F G o d v B
  | .ow o => Own K F H o d v A
  | .pn o v0 => v = v0 ∧ Own K F H o d v A
  | .rd o v0 => v = v0 ∧ ∃ B, Own K F G o d v B
structure EnvOk (K : PySem.W.Frag) (Ks : List Kd) (F0 G F H : Hp) (σ : L2.St) (δ : List (Option D)) : Prop where
  ls : σ.length = Ks.length
  ld : δ.length = Ks.length
  gh : Same G H
  f0 : Same F0 F
  fh : Same F H
  fr : ∀ a, F0 a = none → G a ≠ none → F a = none
  sl : ∃ As : Nat → List Addr, (∀ i k d, Ks[i]? = some k → δ[i]? = some (some d) → ∃ v, σ[i]? = some (some v) ∧ SlotOk K F G H k d v (As i)) ∧ (∀ i, (As i).Nodup) ∧
    (∀ i j a, a ∈ As i → a ∈ As j → i = j) ∧ ∀ i a, a ∈ As i → F a = none ∧ G a = none ∧ H a ≠ none
variable {Ks : List Kd} {σ : L2.St} {δ : List (Option D)}
theorem EnvOk.up (E : EnvOk K Ks F0 G F H σ δ) (u : Up F H F' H') : EnvOk K Ks F0 G F' H' σ δ := by
  obtain ⟨As, h1, h2, h3, h4⟩ := E.sl
  refine ⟨E.ls, E.ld, E.gh.trans u.hh, E.f0.trans u.ff, u.fh, fun a e h => u.fr a (E.fr a e h) (Same.some E.gh h), As, fun i k d e1 e2 => ?_, h2, h3, fun i a ha => ?_⟩
  · obtain ⟨v, e3, s⟩ := h1 i k d e1 e2
    refine ⟨v, e3, ?_⟩
    cases k with
    | ve o =>
      obtain ⟨B, s⟩ := s
      exact ⟨B, s.frame u.ff fun _ _ => rfl⟩
    | rd o v0 =>
      obtain ⟨er, B, s⟩ := s
      exact ⟨er, B, s.frame u.ff fun _ _ => rfl⟩
    | ow o => exact Own.up (show Own K F H o d v (As i) from s) u
    | pn o v0 => exact ⟨s.1, Own.up (show Own K F H o d v (As i) from s.2) u⟩
  · obtain ⟨x1, x2, x3⟩ := h4 i a ha
    exact ⟨u.fr a x1 x3, x2, Same.some u.hh x3⟩
/-- a name is read -/
theorem EnvOk.var (E : EnvOk K Ks F0 G F H σ δ) {i : Nat} {k : Kd} {d : D} (hk : Ks[i]? = some k) (hd : δ[i]? = some (some d)) : ∃ v, σ[i]? = some (some v) ∧ ∃ A, Own K F H k.ot d v A := by
  obtain ⟨As, h1, h2, h3, h4⟩ := E.sl
  obtain ⟨v, e, s⟩ := h1 i k d hk hd
  refine ⟨v, e, ?_⟩
  cases k with
  | ve o =>
    obtain ⟨B, s⟩ := s
    exact ⟨B, s.frame (Same.refl _) fun a ha => Same.eq E.gh (s.there a ha)⟩
  | rd o v0 =>
    obtain ⟨er, B, s⟩ := s
    exact ⟨B, s.frame (Same.refl _) fun a ha => Same.eq E.gh (s.there a ha)⟩
  | ow o => exact ⟨_, s⟩
  | pn o v0 => exact ⟨_, s.2⟩
theorem getElem?_set_or {α : Type} {l : List α} {i j : Nat} {x y : α} (h : (l.set i x)[j]? = some y) : (j = i ∧ y = x) ∨ (j ≠ i ∧ l[j]? = some y) := by
  by_cases e : j = i
  · subst e
    by_cases hl : j < l.length
    · rw [List.getElem?_set_self hl] at h
      exact .inl ⟨rfl, (Option.some.inj h).symm⟩
    · rw [List.getElem?_eq_none (by rw [List.length_set]; omega)] at h; cases h
  · rw [List.getElem?_set_ne (Ne.symm e)] at h
    exact .inr ⟨e, h⟩
/-- a name that is only read gets a value -/
theorem EnvOk.setVe (E : EnvOk K Ks F0 G F H σ δ) {i : Nat} {d : D} {v : V} (hk : Ks[i]? = some (.ve .fz)) (h : Is K F d v) : EnvOk K Ks F0 G F H (σ.set i (some v)) (δ.set i (some d)) := by
  obtain ⟨As, h1, h2, h3, h4⟩ := E.sl
  have hi : i < Ks.length := (List.getElem?_eq_some_iff.mp hk).1
  refine ⟨by rw [List.length_set]; exact E.ls, by rw [List.length_set]; exact E.ld, E.gh, E.f0, E.fh, E.fr, As, fun j k e e1 e2 => ?_, h2, h3, h4⟩
  rcases getElem?_set_or e2 with ⟨rfl, e3⟩ | ⟨ne, e3⟩
  · cases e3
    rw [hk] at e1; cases e1
    exact ⟨v, List.getElem?_set_self (by rw [E.ls]; exact hi), [], Own.of_is h⟩
  · obtain ⟨w, e4, s⟩ := h1 j k e e1 e3
    exact ⟨w, by rw [List.getElem?_set_ne (Ne.symm ne)]; exact e4, s⟩
/-- a name loses its value -/
theorem EnvOk.unset (E : EnvOk K Ks F0 G F H σ δ) (i : Nat) : EnvOk K Ks F0 G F H σ (δ.set i none) := by
  obtain ⟨As, h1, h2, h3, h4⟩ := E.sl
  refine ⟨E.ls, by rw [List.length_set]; exact E.ld, E.gh, E.f0, E.fh, E.fr, As, fun j k e e1 e2 => ?_, h2, h3, h4⟩
  rcases getElem?_set_or e2 with ⟨rfl, e3⟩ | ⟨ne, e3⟩
  · cases e3
  · exact h1 j k e e1 e3
/-- .. whatever stands in the slot -/
theorem EnvOk.unsetS (E : EnvOk K Ks F0 G F H σ δ) (i : Nat) (x : Option V) : EnvOk K Ks F0 G F H (σ.set i x) (δ.set i none) := by
  obtain ⟨As, h1, h2, h3, h4⟩ := E.sl
  refine ⟨by rw [List.length_set]; exact E.ls, by rw [List.length_set]; exact E.ld, E.gh, E.f0, E.fh, E.fr, As, fun j k e e1 e2 => ?_, h2, h3, h4⟩
  rcases getElem?_set_or e2 with ⟨rfl, e3⟩ | ⟨ne, e3⟩
  · cases e3
  · obtain ⟨w, e4, s⟩ := h1 j k e e1 e3
    exact ⟨w, by rw [List.getElem?_set_ne (Ne.symm ne)]; exact e4, s⟩
/-- a name that may be changed gets a value made since (F1, H1) -/
theorem EnvOk.setOw {F1 H1 : Hp} (E1 : EnvOk K Ks F0 G F1 H1 σ δ) (u : Up F1 H1 F H) {i : Nat} {o : OT} {d : D} {v : V} {A : List Addr} (hk : Ks[i]? = some (.ow o)) (h : Own K F H o d v A) (hA : A.Nodup) (n : ∀ a ∈ A, H1 a = none ∧ F a = none) :
    EnvOk K Ks F0 G F H (σ.set i (some v)) (δ.set i (some d)) := by
  have E := E1.up u
  obtain ⟨As1, _, _, _, _⟩ := E1.sl
  obtain ⟨As, h1, h2, h3, h4⟩ := E1.sl
  have hi : i < Ks.length := (List.getElem?_eq_some_iff.mp hk).1
  refine ⟨by rw [List.length_set]; exact E.ls, by rw [List.length_set]; exact E.ld, E.gh, E.f0, E.fh, E.fr, fun j => if j = i then A else As j, fun j k e e1 e2 => ?_, fun j => ?_, fun j l a ha hb => ?_, fun j a ha => ?_⟩
  · rcases getElem?_set_or e2 with ⟨rfl, e3⟩ | ⟨ne, e3⟩
    · cases e3
      rw [hk] at e1; cases e1
      refine ⟨v, List.getElem?_set_self (by rw [E.ls]; exact hi), ?_⟩
      show Own K F H o d v (if j = j then A else As j)
      rw [if_pos rfl]; exact h
    · obtain ⟨w, e4, s⟩ := h1 j k e e1 e3
      refine ⟨w, by rw [List.getElem?_set_ne (Ne.symm ne)]; exact e4, ?_⟩
      cases k with
      | ve o =>
        obtain ⟨B, s⟩ := s
        exact ⟨B, s.frame u.ff fun _ _ => rfl⟩
      | rd o v0 =>
        obtain ⟨er, B, s⟩ := s
        exact ⟨er, B, s.frame u.ff fun _ _ => rfl⟩
      | ow o =>
        show Own K F H o e w (if j = i then A else As j)
        rw [if_neg ne]
        exact Own.up (show Own K F1 H1 o e w (As j) from s) u
      | pn o v0 =>
        refine ⟨s.1, ?_⟩
        show Own K F H o e w (if j = i then A else As j)
        rw [if_neg ne]
        exact Own.up (show Own K F1 H1 o e w (As j) from s.2) u
  · show (if j = i then A else As j).Nodup
    split
    · exact hA
    · exact h2 j
  · have key : ∀ l a, a ∈ As l → a ∈ A → False := fun l a ha hb => (h4 l a ha).2.2 (n a hb).1
    have ha' : a ∈ (if j = i then A else As j) := ha
    have hb' : a ∈ (if l = i then A else As l) := hb
    split at ha' <;> split at hb'
    · rename_i e1 e2; rw [e1, e2]
    · exact (key l a hb' ha').elim
    · exact (key j a ha' hb').elim
    · exact h3 j l a ha' hb'
  · have ha' : a ∈ (if j = i then A else As j) := ha
    split at ha'
    · refine ⟨(n a ha').2, ?_, h.there a ha'⟩
      cases q : G a with
      | none => rfl
      | some o => exact absurd (E1.gh a o q) (by rw [(n a ha').1]; simp)
    · obtain ⟨x1, x2, x3⟩ := h4 j a ha'
      exact ⟨u.fr a x1 x3, x2, Same.some u.hh x3⟩
/-- what a changeable name holds is changed: H' differs from H at its objects alone (and by new ones) -/
theorem EnvOk.put (E : EnvOk K Ks F0 G F H σ δ) {i : Nat} {o : OT} {d : D} {v : V} {d' : D} (hk : Ks[i]? = some (.ow o)) (hd : δ[i]? = some (some d))
    (hv : σ[i]? = some (some v)) {H' : Hp} {F' : Hp}
    (step : ∀ A, Own K F H o d v A → A.Nodup → (∀ a ∈ A, F a = none) → ∃ A', Own K F' H' o d' v A' ∧ A'.Nodup ∧ Same F F' ∧ Same F' H' ∧ (∀ a, F a = none → H a ≠ none → F' a = none) ∧ (∀ a ∈ A', a ∈ A ∨ H a = none) ∧ (∀ a ∈ A', F' a = none) ∧ ∀ a, a ∉ A → H a ≠ none → H' a = H a) :
    EnvOk K Ks F0 G F' H' σ (δ.set i (some d')) := by
  obtain ⟨As, h1, h2, h3, h4⟩ := E.sl
  have hi : i < Ks.length := (List.getElem?_eq_some_iff.mp hk).1
  obtain ⟨v', e, s⟩ := h1 i _ d hk hd
  rw [hv] at e; cases e
  obtain ⟨A', o1, o2, ff, fh, fr, inA, nf, keep⟩ := step (As i) s (h2 i) fun a ha => (h4 i a ha).1
  have keepG : ∀ a, G a ≠ none → H' a = G a := fun a g => by
    rw [keep a (fun ha => g (h4 i a ha).2.1) (Same.some E.gh g)]; exact Same.eq E.gh g
  refine ⟨E.ls, by rw [List.length_set]; exact E.ld, fun a u g => ?_, E.f0.trans ff, fh, fun a e g => fr a (E.fr a e g) (Same.some E.gh g), fun j => if j = i then A' else As j, fun j k e e1 e2 => ?_, fun j => ?_, fun j l a ha hb => ?_, fun j a ha => ?_⟩
  · rw [keepG a (by rw [g]; simp)]; exact g
  · rcases getElem?_set_or e2 with ⟨rfl, e3⟩ | ⟨ne, e3⟩
    · cases e3
      rw [hk] at e1; cases e1
      refine ⟨v, hv, ?_⟩
      show Own K F' H' o d' v (if j = j then A' else As j)
      rw [if_pos rfl]; exact o1
    · obtain ⟨w, e4, s⟩ := h1 j k e e1 e3
      refine ⟨w, e4, ?_⟩
      cases k with
      | ve o =>
        obtain ⟨B, s⟩ := s
        exact ⟨B, s.frame ff fun _ _ => rfl⟩
      | rd o v0 =>
        obtain ⟨er, B, s⟩ := s
        exact ⟨er, B, s.frame ff fun _ _ => rfl⟩
      | ow o =>
        show Own K F' H' o e w (if j = i then A' else As j)
        rw [if_neg ne]
        exact Own.frame ff (show Own K F H o e w (As j) from s) fun a ha => keep a (fun hb => ne (h3 j i a ha hb)) (h4 j a ha).2.2
      | pn o v0 =>
        refine ⟨s.1, ?_⟩
        show Own K F' H' o e w (if j = i then A' else As j)
        rw [if_neg ne]
        exact Own.frame ff (show Own K F H o e w (As j) from s.2) fun a ha => keep a (fun hb => ne (h3 j i a ha hb)) (h4 j a ha).2.2
  · show (if j = i then A' else As j).Nodup
    split
    · exact o2
    · exact h2 j
  · have key : ∀ l a, l ≠ i → a ∈ As l → a ∈ A' → False := fun l a ne ha hb => by
      rcases inA a hb with z | z
      · exact ne (h3 l i a ha z)
      · exact (h4 l a ha).2.2 z
    have ha' : a ∈ (if j = i then A' else As j) := ha
    have hb' : a ∈ (if l = i then A' else As l) := hb
    by_cases e1 : j = i <;> by_cases e2 : l = i
    · rw [e1, e2]
    · rw [if_pos e1] at ha'; rw [if_neg e2] at hb'; exact (key l a e2 hb' ha').elim
    · rw [if_neg e1] at ha'; rw [if_pos e2] at hb'; exact (key j a e1 ha' hb').elim
    · rw [if_neg e1] at ha'; rw [if_neg e2] at hb'; exact h3 j l a ha' hb'
  · have ha' : a ∈ (if j = i then A' else As j) := ha
    by_cases e1 : j = i
    · rw [if_pos e1] at ha'
      refine ⟨nf a ha', ?_, o1.there a ha'⟩
      rcases inA a ha' with z | z
      · exact (h4 i a z).2.1
      · cases q : G a with
        | none => rfl
        | some u => exact absurd (E.gh a u q) (by rw [z]; simp)
    · rw [if_neg e1] at ha'
      obtain ⟨x1, x2, x3⟩ := h4 j a ha'
      refine ⟨fr a x1 x3, x2, ?_⟩
      rw [keep a (fun hb => e1 (h3 j i a ha' hb)) x3]; exact x3
end Ev

set_option maxHeartbeats 4000000
/-! Ev, part C: what an expression is worth (on plain data), and that it is so. -/
namespace Ev
open PySem PySem.Spec PyProof.Rows L2
abbrev Env := List (Option D)
/-- an error: its class (a place in excT), its fields -/
structure Xd where
  c : Nat
  args : List D
inductive R where
  | ok (d : D) | ex (x : Xd)
def excT : Nat → Cl
  | 0 => ⟨"LineError", ["number"]⟩ | 1 => ⟨"BadForm", ["number"]⟩ | 2 => ⟨"Misplaced", ["number"]⟩ | 3 => ⟨"Duplicate", ["number"]⟩ | 4 => ⟨"Unknown", ["number"]⟩
  | 5 => ⟨"NotNested", ["number"]⟩ | 6 => ⟨"TooMany", ["number"]⟩ | 7 => ⟨"TooLong", ["number"]⟩ | 8 => ⟨"NoName", ["name"]⟩ | 9 => ⟨"Repeated", ["name"]⟩
  | 10 => ⟨"Overfull", []⟩ | 11 => ⟨"WrongMove", ["move"]⟩ | 12 => ⟨"BadRun", ["at"]⟩ | 13 => ⟨"NoThread", ["thread"]⟩ | 14 => ⟨"MustWait", ["lock", "blocker"]⟩
  | 15 => ⟨"Refused", ["at"]⟩ | 16 => ⟨"Deadlocked", ["cycle"]⟩ | 17 => ⟨"NoRequest", ["request"]⟩ | 18 => ⟨"NoContext", ["context"]⟩ | 19 => ⟨"NoRunCycle", []⟩
  | 20 => ⟨"Clash", ["cycle"]⟩ | 21 => ⟨"NoLockOrder", ["cycle"]⟩ | _ => ⟨"HeldError", []⟩
def XRep (K : PySem.W.Frag) (F H : Hp) (x : Xd) (cls : V) (dx : Option Addr) : Prop :=
  cls = .ref (He.ga K (excT x.c).name) ∧ match (excT x.c).fields with
    | [] => dx = none
    | f :: fs => ∃ p vs, dx = some p ∧ F p = some (.xd ((f :: fs).zip vs).reverse) ∧ vs.length = (f :: fs).length ∧ IsL K F x.args vs
/-- what an expression hands on -/
inductive Ty where
  | vw (o : OT) | fr (o : OT)
def Post (K : PySem.W.Frag) (H F' H' : Hp) : Ty → D → V → Prop
  | .vw o, d, v => ∃ A, Own K F' H' o d v A
  | .fr o, d, v => ∃ A, Own K F' H' o d v A ∧ A.Nodup ∧ ∀ a ∈ A, H a = none ∧ F' a = none
/-- a body's fixed things -/
structure Cp where
  K : PySem.W.Frag
  Ks : List Kd
  F0 : Hp
  G : Hp
  W : WX
def Cp.E (c : Cp) (F H : Hp) (σ : L2.St) (δ : Env) : Prop := EnvOk c.K c.Ks c.F0 c.G F H σ δ
/-- what a wish about errors takes in -/
def Bad (c : Cp) (F H : Hp) (σ : L2.St) (x : Xd) : Prop := ∀ cls u dx F' H', RelV cls u → Up F H F' H' → XRep c.K F' H' x cls dx → c.W u dx σ H'
/-- what is wanted of an outcome -/
def Gv (c : Cp) (ty : Ty) (F H : Hp) (σ : L2.St) (Q : VK) : Option R → Prop
  | some (.ok d) => ∀ v F' H', Up F H F' H' → Post c.K H F' H' ty d v → Q v H'
  | some (.ex x) => Bad c F H σ x
  | none => False
def Gt (c : Cp) (F H : Hp) (σ : L2.St) (Q : Bool → Hp → Prop) : Option R → Prop
  | some (.ok (.bl b)) => ∀ F' H', Up F H F' H' → Q b H'
  | some (.ex x) => Bad c F H σ x
  | _ => False
def tV (c : Cp) (ty : Ty) (f : Env → Option R) : TE := fun σ H Q => ∃ F δ, c.E F H σ δ ∧ Gv c ty F H σ Q (f δ)
def tT (c : Cp) (f : Env → Option R) : TT := fun σ H Q => ∃ F δ, c.E F H σ δ ∧ Gt c F H σ Q (f δ)
inductive RL where
  | ok (ds : List D) | ex (x : Xd)
/-- each as its type asks -/
def ViewL (K : PySem.W.Frag) (F H : Hp) : List OT → List D → List V → Prop
  | [], [], vs => vs = []
  | o :: os, d :: ds, vs => ∃ v r, vs = v :: r ∧ (∃ A, Own K F H o d v A) ∧ ViewL K F H os ds r
  | _, _, _ => False
def Gl' (c : Cp) (os : List OT) (F H : Hp) (σ : L2.St) (Q : List V → Hp → Prop) : Option RL → Prop
  | some (.ok ds) => ∀ vs F' H', Up F H F' H' → ViewL c.K F' H' os ds vs → Q vs H'
  | some (.ex x) => Bad c F H σ x
  | none => False
def tL (c : Cp) (os : List OT) (f : Env → Option RL) : TA := fun σ H Q => ∃ F δ, c.E F H σ δ ∧ Gl' c os F H σ Q (f δ)
def bnd (r : Option R) (k : D → Option R) : Option R := match r with
  | some (.ok d) => k d
  | some (.ex x) => some (.ex x)
  | none => none
def bndL (r : Option RL) (k : List D → Option R) : Option R := match r with
  | some (.ok d) => k d
  | some (.ex x) => some (.ex x)
  | none => none
def okO : Option D → Option R
  | some d => some (.ok d)
  | none => none
def okB : Option Bool → Option R
  | some b => some (.ok (.bl b))
  | none => none
variable {X : Cx} {c : Cp} {F G H F' H' : Hp} {σ : L2.St} {δ : Env} {o : OT}
theorem PE.imp {e : Expr} {t t' : TE} (h : PE X e t) (i : ∀ σ H Q, t' σ H Q → t σ H Q) : PE X e t' := ⟨fun pins s σ H Q I q => h.run pins s σ H Q I (i σ H Q q)⟩
theorem PT.imp {e : Expr} {t t' : TT} (h : PT X e t) (i : ∀ σ H Q, t' σ H Q → t σ H Q) : PT X e t' := ⟨fun pins s σ H Q I q => h.run pins s σ H Q I (i σ H Q q)⟩
theorem PA.imp {es : List Expr} {t t' : TA} (h : PA X es t) (i : ∀ σ H Q, t' σ H Q → t σ H Q) : PA X es t' := ⟨fun pos pins s σ H Q I q => h.run pos pins s σ H Q I (i σ H Q q)⟩
theorem Cp.E.up (E : c.E F H σ δ) (u : Up F H F' H') : c.E F' H' σ δ := EnvOk.up E u
theorem Bad.up {x : Xd} (b : Bad c F H σ x) (u : Up F H F' H') : Bad c F' H' σ x := fun cls v dx F2 H2 r u2 h => b cls v dx F2 H2 r (u.trans u2) h
theorem ViewL.up (u : Up F H F' H') : ∀ {os : List OT} {ds : List D} {vs : List V}, ViewL c.K F H os ds vs → ViewL c.K F' H' os ds vs
  | [], [], _, h => h
  | o :: os, d :: ds, _, h => by
    simp only [ViewL] at h ⊢
    obtain ⟨v, r, e, ⟨A, h1⟩, h2⟩ := h
    exact ⟨v, r, e, ⟨A, h1.up u⟩, ViewL.up u h2⟩
  | [], _ :: _, _, h => by simp [ViewL] at h
  | _ :: _, [], _, h => by simp [ViewL] at h
/-! ### types -/
def coe : Ty → OT → Bool
  | .vw .fz, .fz => true
  | .fr _, .fz => true
  | .vw .fz, .bw => true
  | .vw .bw, .bw => true
  | .vw (.lst .fz), .bw => true
  | .vw .dic, .bw => true
  | .fr _, .bw => true
  | .vw .dic, .dic => true
  | .vw (.lst .fz), .lst .fz => true
  | _, _ => false
theorem OwnL.fz {K : PySem.W.Frag} : ∀ {ds : List D} {vs : List V} {B : List Addr}, OwnL K F H .fz ds vs B → B = [] ∧ IsL K F ds vs
  | [], vs, B, h => by simp only [OwnL] at h; exact ⟨h.2, h.1⟩
  | d :: ds, vs, B, h => by
    simp only [OwnL] at h
    obtain ⟨v, r, A1, A2, rfl, h1, h2, rfl⟩ := h
    obtain ⟨e1, e2⟩ := OwnL.fz h2
    simp only [Own] at h1
    exact ⟨by rw [h1.1, e1]; rfl, v, r, rfl, h1.2, e2⟩
theorem OwnL.of_fz {K : PySem.W.Frag} : ∀ {ds : List D} {vs : List V}, IsL K F ds vs → OwnL K F H .fz ds vs []
  | [], vs, h => by simp only [IsL] at h; simp only [OwnL]; exact ⟨h, trivial⟩
  | d :: ds, vs, h => by
    simp only [IsL] at h
    obtain ⟨v, r, rfl, h1, h2⟩ := h
    simp only [OwnL]
    exact ⟨v, r, [], [], rfl, Own.of_is h1, OwnL.of_fz h2, rfl⟩
theorem Own.toBw {K : PySem.W.Frag} {o : OT} {d : D} {v : V} {A : List Addr} (h : Own K F H o d v A) (e : o = .fz ∨ o = .bw ∨ o = .lst .fz ∨ o = .dic) : ∃ A, Own K F H .bw d v A := by
  rcases e with rfl | rfl | rfl | rfl
  · exact ⟨[], by simp only [Own]; exact .inl ⟨rfl, h.is⟩⟩
  · exact ⟨A, h⟩
  · cases d with
    | lst ds =>
      simp only [Own] at h
      obtain ⟨a, vs, B, e, h1, h2, rfl⟩ := h
      refine ⟨[a], ?_⟩
      simp only [Own]
      exact .inr (.inl ⟨ds, a, vs, rfl, e, h1, h2.fz.2, rfl⟩)
    | _ => simp [Own] at h
  · cases d with
    | dic ks ds =>
      simp only [Own] at h
      obtain ⟨a, kvs, e, h1, h2, h3, rfl⟩ := h
      refine ⟨[a], ?_⟩
      simp only [Own]
      exact .inr (.inr ⟨ks, ds, a, kvs, rfl, e, h1, h2, h3, rfl⟩)
    | _ => simp [Own] at h
/-- behind an expression its value is taken as o asks (what is new may be frozen) -/
theorem Post.coe {F1 H1 : Hp} {ty : Ty} {o : OT} {d : D} {v : V} (h : Post c.K H F1 H1 ty d v) (u : Up F H F1 H1) (e : coe ty o = true) : ∃ F2, Up F H F2 H1 ∧ Same F1 F2 ∧ ∃ A, Own c.K F2 H1 o d v A := by
  have fz : ∀ {o'}, ty = .fr o' → ∃ F2, Up F H F2 H1 ∧ Same F1 F2 ∧ ∃ A, Own c.K F2 H1 .fz d v A := fun {o'} e => by
    subst e
    obtain ⟨A, h1, h2, h3⟩ := h
    refine ⟨frz F1 H1 A, u.freeze fun a ha => (h3 a ha).1, frz_ff u.fh, [], Own.of_is (h1.freeze (frz_ff u.fh) fun a ha => frz_in ha)⟩
  cases ty with
  | fr o' =>
    cases o with
    | fz => exact fz rfl
    | bw =>
      obtain ⟨F2, u2, s2, A, h2⟩ := fz rfl
      obtain ⟨B, h3⟩ := h2.toBw (.inl rfl)
      exact ⟨F2, u2, s2, B, h3⟩
    | _ => simp [Ev.coe] at e
  | vw o' =>
    obtain ⟨A, h⟩ := h
    have tb : (o' = .fz ∨ o' = .bw ∨ o' = .lst .fz ∨ o' = .dic) → ∃ F2, Up F H F2 H1 ∧ Same F1 F2 ∧ ∃ A, Own c.K F2 H1 .bw d v A := fun z => by
      obtain ⟨B, h3⟩ := h.toBw z
      exact ⟨F1, u, Same.refl _, B, h3⟩
    have sm : o' = o → ∃ F2, Up F H F2 H1 ∧ Same F1 F2 ∧ ∃ A, Own c.K F2 H1 o d v A := fun z => by
      subst z; exact ⟨F1, u, Same.refl _, A, h⟩
    cases o' with
    | fz =>
      cases o with
      | fz => exact sm rfl
      | bw => exact tb (.inl rfl)
      | _ => simp [Ev.coe] at e
    | bw =>
      cases o with
      | bw => exact sm rfl
      | _ => simp [Ev.coe] at e
    | dic =>
      cases o with
      | bw => exact tb (.inr (.inr (.inr rfl)))
      | dic => exact sm rfl
      | _ => simp [Ev.coe] at e
    | ins os => simp [Ev.coe] at e
    | lst o2 =>
      cases o2 with
      | fz =>
        cases o with
        | bw => exact tb (.inr (.inr (.inl rfl)))
        | lst o3 =>
          cases o3 with
          | fz => exact sm rfl
          | _ => simp [Ev.coe] at e
        | _ => simp [Ev.coe] at e
      | _ => simp [Ev.coe] at e
/-! ### going on -/
theorem Post.up {H1 F' H' : Hp} {ty : Ty} {d : D} {v : V} (s : Same H H1) (p : Post c.K H1 F' H' ty d v) : Post c.K H F' H' ty d v := by
  cases ty with
  | vw o => exact p
  | fr o =>
    obtain ⟨A, h1, h2, h3⟩ := p
    exact ⟨A, h1, h2, fun a ha => ⟨s.free (h3 a ha).1, (h3 a ha).2⟩⟩
theorem Gv.up {ty : Ty} {Q : VK} {r : Option R} (g : Gv c ty F H σ Q r) (u : Up F H F' H') : Gv c ty F' H' σ Q r := by
  cases r with
  | none => exact g
  | some r =>
    cases r with
    | ok d => exact fun v F2 H2 u2 p => g v F2 H2 (u.trans u2) (p.up u.hh)
    | ex x => exact Bad.up g u
theorem Gt.up {Q : Bool → Hp → Prop} {r : Option R} (g : Gt c F H σ Q r) (u : Up F H F' H') : Gt c F' H' σ Q r := by
  cases r with
  | none => exact g
  | some r =>
    cases r with
    | ok d =>
      cases d with
      | bl b => exact fun F2 H2 u2 => g F2 H2 (u.trans u2)
      | _ => exact g
    | ex x => exact Bad.up g u
/-- an expression ahead of the rest k; Gd: what is wanted in the end (a Gv, Gt, ..) -/
theorem tV.go {ta : Ty} {oa : OT} {fa : Env → Option R} {Q1 : VK} {Gd : Hp → Hp → Option R → Prop} {k : D → Option R} (co : coe ta oa = true) (E : c.E F H σ δ)
    (hb : ∀ x, Gd F H (some (.ex x)) → Bad c F H σ x) (hn : ¬ Gd F H none) (hup : ∀ r F1 H1, Gd F H r → Up F H F1 H1 → Gd F1 H1 r) (h : Gd F H (bnd (fa δ) k))
    (hk : ∀ d v F1 H1, fa δ = some (.ok d) → Up F H F1 H1 → c.E F1 H1 σ δ → (∃ A, Own c.K F1 H1 oa d v A) → Gd F1 H1 (k d) → Q1 v H1) : tV c ta fa σ H Q1 := by
  refine ⟨F, δ, E, ?_⟩
  cases e : fa δ with
  | none => rw [e] at h; exact (hn h).elim
  | some r =>
    rw [e] at h
    cases r with
    | ex x => exact hb x h
    | ok d =>
      intro v F1 H1 u p
      obtain ⟨F2, u2, s2, A, o⟩ := p.coe u co
      exact hk d v F2 H1 e u2 (E.up u2) ⟨A, o⟩ (hup _ _ _ h u2)
theorem tV.goV {ta ty : Ty} {oa : OT} {fa : Env → Option R} {Q1 Q : VK} {k : D → Option R} (co : coe ta oa = true) (E : c.E F H σ δ) (h : Gv c ty F H σ Q (bnd (fa δ) k))
    (hk : ∀ d v F1 H1, Up F H F1 H1 → c.E F1 H1 σ δ → (∃ A, Own c.K F1 H1 oa d v A) → Gv c ty F1 H1 σ Q (k d) → Q1 v H1) : tV c ta fa σ H Q1 :=
  tV.go (Gd := fun F H r => Gv c ty F H σ Q r) co E (fun _ h => h) (fun h => h) (fun _ _ _ g u => g.up u) h fun d v F1 H1 _ => hk d v F1 H1
theorem tV.goT {ta : Ty} {oa : OT} {fa : Env → Option R} {Q1 : VK} {Q : Bool → Hp → Prop} {k : D → Option R} (co : coe ta oa = true) (E : c.E F H σ δ) (h : Gt c F H σ Q (bnd (fa δ) k))
    (hk : ∀ d v F1 H1, Up F H F1 H1 → c.E F1 H1 σ δ → (∃ A, Own c.K F1 H1 oa d v A) → Gt c F1 H1 σ Q (k d) → Q1 v H1) : tV c ta fa σ H Q1 :=
  tV.go (Gd := fun F H r => Gt c F H σ Q r) co E (fun _ h => h) (fun h => h) (fun _ _ _ g u => g.up u) h fun d v F1 H1 _ => hk d v F1 H1
/-- .. the operand as it is -/
theorem tV.goW {ty : Ty} {fa : Env → Option R} {Q1 Q : VK} {k : D → Option R} (E : c.E F H σ δ) (h : Gv c ty F H σ Q (bnd (fa δ) k))
    (hk : ∀ d v F1 H1, fa δ = some (.ok d) → Up F H F1 H1 → c.E F1 H1 σ δ → (∃ A, Own c.K F1 H1 o d v A) → Gv c ty F1 H1 σ Q (k d) → Q1 v H1) : tV c (.vw o) fa σ H Q1 := by
  refine ⟨F, δ, E, ?_⟩
  cases e : fa δ with
  | none => rw [e] at h; exact h.elim
  | some r =>
    rw [e] at h
    cases r with
    | ex x => exact h
    | ok d =>
      intro v F1 H1 u p
      exact hk d v F1 H1 e u (E.up u) p (Gv.up h u)
theorem Gv.okO {Q : VK} {r : Option D} (g : Gv c (.vw .fz) F H σ Q (Ev.okO r)) : ∃ d, r = some d ∧ ∀ v F' H', Up F H F' H' → Is c.K F' d v → Q v H' := by
  cases r with
  | none => exact g.elim
  | some d => exact ⟨d, rfl, fun v F' H' u i => g v F' H' u ⟨[], Own.of_is i⟩⟩
theorem Gv.okB {Q : VK} {r : Option Bool} (g : Gv c (.vw .fz) F H σ Q (Ev.okB r)) : ∃ b, r = some b ∧ ∀ F' H', Up F H F' H' → Q (.bl b) H' := by
  cases r with
  | none => exact g.elim
  | some b => exact ⟨b, rfl, fun F' H' u => g _ F' H' u ⟨[], Own.of_is (by simp only [Is])⟩⟩
theorem Gt.okB {Q : Bool → Hp → Prop} {r : Option Bool} (g : Gt c F H σ Q (Ev.okB r)) : ∃ b, r = some b ∧ ∀ F' H', Up F H F' H' → Q b H' := by
  cases r with
  | none => exact g.elim
  | some b => exact ⟨b, rfl, g⟩
/-! ### names, constants -/
def evVar (i : Nat) : Env → Option R := fun δ => match δ[i]? with
  | some (some d) => some (.ok d)
  | _ => none
theorem s_var {i : Nat} {k : Kd} {x : Str} {pos : Pos} (hN : X.N[i]? = some x) (hv : Vis X.env.scope x) (hd : (x == ("__debug__" : Str)) = false) (hcd : (x == ("__classdict__" : Str)) = false) (hk : c.Ks[i]? = some k) :
    PE X (.Name x pos) (tV c (.vw k.ot) (evVar i)) := by
  refine PE.imp (pe_var hN hv hd hcd) fun σ H Q h => ?_
  obtain ⟨F, δ, E, h⟩ := h
  unfold evVar at h
  cases e : δ[i]? with
  | none => rw [e] at h; exact h.elim
  | some o =>
    cases o with
    | none => rw [e] at h; exact h.elim
    | some d =>
      rw [e] at h
      obtain ⟨v, e1, A, h1⟩ := EnvOk.var E hk e
      exact ⟨v, e1, h v F H (Up.refl E.fh) ⟨A, h1⟩⟩
theorem s_c {e : Expr} {v : V} {d : D} (h : PE X e (tC v)) (hd : ∀ K H, Is K H d v) : PE X e (tV c (.vw .fz) fun _ => some (.ok d)) := by
  refine PE.imp h fun σ H Q h => ?_
  obtain ⟨F, δ, E, h⟩ := h
  exact h v F H (Up.refl E.fh) ⟨[], Own.of_is (hd _ _)⟩
/-! ### operators of two values -/
/-- the operator's rule, on data: operands taken as oa, ob -/
def OpS (X : Cx) (c : Cp) (g : Value → Value → Sem Value) (oa ob : OT) (f : D → D → Option D) : Prop := ∃ r : R2, OpR X g r ∧
  ∀ (F H : Hp) (x y : V) (dx dy d : D) (A B : List Addr) (Q : VK), Same F H → Own c.K F H oa dx x A → Own c.K F H ob dy y B → f dx dy = some d → (∀ v F' H', Up F H F' H' → Is c.K F' d v → Q v H') → r x y H Q
variable {a b : Expr} {pos : Pos} {ta tb : Ty} {oa ob : OT} {fa fb : Env → Option R}
theorem s_bin {op : Operator} {f : D → D → Option D} (ho : OpS X c (binaryOp op) oa ob f) (ha : PE X a (tV c ta fa)) (hb : PE X b (tV c tb fb)) (ca : coe ta oa = true) (cb : coe tb ob = true) :
    PE X (.BinOp a op b pos) (tV c (.vw .fz) fun δ => bnd (fa δ) fun x => bnd (fb δ) fun y => okO (f x y)) := by
  obtain ⟨r, hr, hf⟩ := ho
  refine PE.imp (pe_op hr ha hb) fun σ H Q h => ?_
  obtain ⟨F, δ, E, h⟩ := h
  refine tV.goV ca E h fun dx x F1 H1 u1 E1 hx h1 => ?_
  refine tV.goV cb E1 h1 fun dy y F2 H2 u2 E2 hy h2 => ?_
  obtain ⟨A, hx⟩ := hx
  obtain ⟨B, hy⟩ := hy
  obtain ⟨d, e, q⟩ := h2.okO
  exact hf F2 H2 x y dx dy d A B Q u2.fh (hx.up u2) hy e q
theorem s_cmp {op : CmpOp} {f : D → D → Option Bool} (ho : OpS X c (compareOp op) oa ob fun x y => (f x y).map D.bl) (ha : PE X a (tV c ta fa)) (hb : PE X b (tV c tb fb)) (ca : coe ta oa = true) (cb : coe tb ob = true) (hm : behindInMarks op b = false) :
    PE X (.Compare a [op] [b] pos) (tV c (.vw .fz) fun δ => bnd (fa δ) fun x => bnd (fb δ) fun y => okB (f x y)) := by
  obtain ⟨r, hr, hf⟩ := ho
  refine PE.imp (pe_cmpR hr ha hb hm) fun σ H Q h => ?_
  obtain ⟨F, δ, E, h⟩ := h
  refine tV.goV ca E h fun dx x F1 H1 u1 E1 hx h1 => ?_
  refine tV.goV cb E1 h1 fun dy y F2 H2 u2 E2 hy h2 => ?_
  obtain ⟨A, hx⟩ := hx
  obtain ⟨B, hy⟩ := hy
  obtain ⟨k, e, q⟩ := h2.okB
  refine hf F2 H2 x y dx dy (.bl k) A B Q u2.fh (hx.up u2) hy (by show (f dx dy).map D.bl = _; rw [e]; rfl) fun v F' H' u i => ?_
  simp only [Is] at i
  rw [i]; exact q F' H' u
theorem t_cmp {op : CmpOp} {f : D → D → Option Bool} (ho : OpS X c (compareOp op) oa ob fun x y => (f x y).map D.bl) (ha : PE X a (tV c ta fa)) (hb : PE X b (tV c tb fb)) (ca : coe ta oa = true) (cb : coe tb ob = true) (hm : behindInMarks op b = false) :
    PT X (.Compare a [op] [b] pos) (tT c fun δ => bnd (fa δ) fun x => bnd (fb δ) fun y => okB (f x y)) := by
  obtain ⟨r, hr, hf⟩ := ho
  refine PT.imp (pt_cmpR hr ha hb hm) fun σ H Q h => ?_
  obtain ⟨F, δ, E, h⟩ := h
  refine tV.goT ca E h fun dx x F1 H1 u1 E1 hx h1 => ?_
  refine tV.goT cb E1 h1 fun dy y F2 H2 u2 E2 hy h2 => ?_
  obtain ⟨A, hx⟩ := hx
  obtain ⟨B, hy⟩ := hy
  obtain ⟨k, e, q⟩ := h2.okB
  refine hf F2 H2 x y dx dy (.bl k) A B _ u2.fh (hx.up u2) hy (by show (f dx dy).map D.bl = _; rw [e]; rfl) fun v F' H' u i => ?_
  simp only [Is] at i
  exact ⟨k, i, q F' H' u⟩
end Ev

set_option maxHeartbeats 4000000
/-! Ev, part D: tests, choices, places, displays, arguments. -/
namespace Ev
open PySem PySem.Spec PyProof.Rows L2
variable {X : Cx} {c : Cp} {F G H F' H' : Hp} {σ : L2.St} {δ : Env} {a b e : Expr} {pos : Pos} {ta tb tc ty : Ty} {oa ob oc : OT} {fa fb fc : Env → Option R}
/-! ### tests -/
def bndB (r : Option R) (k : Bool → Option R) : Option R := match r with
  | some (.ok (.bl b)) => k b
  | some (.ex x) => some (.ex x)
  | _ => none
theorem bndB_eq (r : Option R) (k : Bool → Option R) : bndB r k = bnd r fun d => bndB (some (.ok d)) k := by
  cases r with
  | none => rfl
  | some r => cases r <;> rfl
theorem bnd_id (r : Option R) : bnd r (fun d => some (.ok d)) = r := by
  cases r with
  | none => rfl
  | some r => cases r <;> rfl
theorem Gt.bl {Q : Bool → Hp → Prop} {b : Bool} (g : Gt c F H σ Q (some (.ok (.bl b)))) : ∀ F' H', Up F H F' H' → Q b H' := g
/-- a test ahead of the rest -/
theorem tT.go {Q1 : Bool → Hp → Prop} {Gd : Hp → Hp → Option R → Prop} {k : Bool → Option R} (E : c.E F H σ δ)
    (hb : ∀ x, Gd F H (some (.ex x)) → Bad c F H σ x) (hn : ¬ Gd F H none) (hup : ∀ r F1 H1, Gd F H r → Up F H F1 H1 → Gd F1 H1 r) (h : Gd F H (bndB (fa δ) k))
    (hk : ∀ b F1 H1, Up F H F1 H1 → c.E F1 H1 σ δ → Gd F1 H1 (k b) → Q1 b H1) : tT c fa σ H Q1 := by
  refine ⟨F, δ, E, ?_⟩
  cases e : fa δ with
  | none => rw [e] at h; exact (hn h).elim
  | some r =>
    rw [e] at h
    cases r with
    | ex x => exact hb x h
    | ok d =>
      cases d with
      | bl b => exact fun F1 H1 u => hk b F1 H1 u (E.up u) (hup _ _ _ h u)
      | _ => exact (hn h).elim
theorem tT.goT {Q Q1 : Bool → Hp → Prop} {k : Bool → Option R} (E : c.E F H σ δ) (h : Gt c F H σ Q (bndB (fa δ) k))
    (hk : ∀ b F1 H1, Up F H F1 H1 → c.E F1 H1 σ δ → Gt c F1 H1 σ Q (k b) → Q1 b H1) : tT c fa σ H Q1 :=
  tT.go (Gd := fun F H r => Gt c F H σ Q r) E (fun _ h => h) (fun h => h) (fun _ _ _ g u => g.up u) h hk
theorem tT.goV {ty : Ty} {Q : VK} {Q1 : Bool → Hp → Prop} {k : Bool → Option R} (E : c.E F H σ δ) (h : Gv c ty F H σ Q (bndB (fa δ) k))
    (hk : ∀ b F1 H1, Up F H F1 H1 → c.E F1 H1 σ δ → Gv c ty F1 H1 σ Q (k b) → Q1 b H1) : tT c fa σ H Q1 :=
  tT.go (Gd := fun F H r => Gv c ty F H σ Q r) E (fun _ h => h) (fun h => h) (fun _ _ _ g u => g.up u) h hk
/-- a value that is a bool, as a test -/
theorem t_val (ha : PE X a (tV c ta fa)) (he : ∀ whole, isTrue a X.env whole = (do let v ← whole; standAt a.pos; holding [v] (truthy v))) (ca : coe ta .fz = true) : PT X a (tT c fa) := by
  refine PT.imp (pt_val ha he) fun σ H Q h => ?_
  obtain ⟨F, δ, E, h⟩ := h
  rw [← bnd_id (fa δ)] at h
  refine tV.goT ca E h fun dx x F1 H1 u1 E1 hx h1 => ?_
  obtain ⟨A, hx⟩ := hx
  cases dx with
  | bl b =>
    have q := hx.is
    simp only [Is] at q
    exact ⟨b, q, h1 F1 H1 (Up.refl u1.fh)⟩
  | _ => exact h1.elim
theorem t_not (ha : PT X a (tT c fa)) : PT X (.UnaryOp .Not a pos) (tT c fun δ => bndB (fa δ) fun b => some (.ok (.bl (!b)))) := by
  refine PT.imp (pt_not ha) fun σ H Q h => ?_
  obtain ⟨F, δ, E, h⟩ := h
  exact tT.goT E h fun b F1 H1 u1 E1 h1 => h1 F1 H1 (Up.refl u1.fh)
theorem s_not (ha : PE X a (tV c ta fa)) (ca : coe ta .fz = true) : PE X (.UnaryOp .Not a pos) (tV c (.vw .fz) fun δ => bndB (fa δ) fun b => some (.ok (.bl (!b)))) := by
  refine PE.imp (pe_not ha) fun σ H Q h => ?_
  obtain ⟨F, δ, E, h⟩ := h
  change Gv c (.vw .fz) F H σ Q (bndB (fa δ) _) at h
  rw [bndB_eq] at h
  refine tV.goV ca E h fun dx x F1 H1 u1 E1 hx h1 => ?_
  obtain ⟨A, hx⟩ := hx
  cases dx with
  | bl b =>
    have q := hx.is
    simp only [Is] at q
    exact ⟨b, q, h1 _ F1 H1 (Up.refl u1.fh) ⟨[], Own.of_is (by simp only [Is])⟩⟩
  | _ => exact h1.elim
/-- and, or: as tests -/
theorem w_one {op : BoolOp} (ha : PT X a (tT c fa)) : PW X (.BoolOp op [a] pos) (tT c fa) := by
  cases op with
  | And => exact pw_and1 ha
  | Or => exact pw_or1 ha
theorem PW.imp {t t' : TT} (h : PW X e t) (i : ∀ σ H Q, t' σ H Q → t σ H Q) : PW X e t' := ⟨fun wh pins s σ H Q I q => h.run wh pins s σ H Q I (i σ H Q q)⟩
theorem w_and {rest : List Expr} (ha : PT X a (tT c fa)) (hb : PW X (.BoolOp .And (b :: rest) pos) (tT c fb)) :
    PW X (.BoolOp .And (a :: b :: rest) pos) (tT c fun δ => bndB (fa δ) fun x => if x then fb δ else some (.ok (.bl false))) := by
  refine PW.imp (pw_and ha hb) fun σ H Q h => ?_
  obtain ⟨F, δ, E, h⟩ := h
  refine tT.goT E h fun x F1 H1 u1 E1 h1 => ?_
  cases x with
  | true => exact ⟨F1, δ, E1, h1⟩
  | false => exact h1 F1 H1 (Up.refl u1.fh)
theorem w_or {rest : List Expr} (ha : PT X a (tT c fa)) (hb : PW X (.BoolOp .Or (b :: rest) pos) (tT c fb)) :
    PW X (.BoolOp .Or (a :: b :: rest) pos) (tT c fun δ => bndB (fa δ) fun x => if x then some (.ok (.bl true)) else fb δ) := by
  refine PW.imp (pw_or ha hb) fun σ H Q h => ?_
  obtain ⟨F, δ, E, h⟩ := h
  refine tT.goT E h fun x F1 H1 u1 E1 h1 => ?_
  cases x with
  | true => exact h1 F1 H1 (Up.refl u1.fh)
  | false => exact ⟨F1, δ, E1, h1⟩
/-- .. as values -/
theorem s_one {op : BoolOp} (ha : PE X a (tV c ta fa)) : PE X (.BoolOp op [a] pos) (tV c ta fa) := pe_one ha
theorem s_and {rest : List Expr} (ha : PE X a (tV c ta fa)) (ca : coe ta .fz = true) (hb : PE X (.BoolOp .And (b :: rest) pos) (tV c (.vw .fz) fb)) :
    PE X (.BoolOp .And (a :: b :: rest) pos) (tV c (.vw .fz) fun δ => bndB (fa δ) fun x => if x then fb δ else some (.ok (.bl false))) := by
  refine PE.imp (pe_and ha hb) fun σ H Q h => ?_
  obtain ⟨F, δ, E, h⟩ := h
  change Gv c (.vw .fz) F H σ Q (bndB (fa δ) _) at h
  rw [bndB_eq] at h
  refine tV.goV ca E h fun dx x F1 H1 u1 E1 hx h1 => ?_
  obtain ⟨A, hx⟩ := hx
  cases dx with
  | bl b =>
    have q := hx.is
    simp only [Is] at q
    refine ⟨b, q, ?_⟩
    cases b with
    | true => exact ⟨F1, δ, E1, h1⟩
    | false => exact h1 _ F1 H1 (Up.refl u1.fh) ⟨[], Own.of_is (by simp only [Is])⟩
  | _ => exact h1.elim
theorem s_or {rest : List Expr} (ha : PE X a (tV c ta fa)) (ca : coe ta .fz = true) (hb : PE X (.BoolOp .Or (b :: rest) pos) (tV c (.vw .fz) fb)) :
    PE X (.BoolOp .Or (a :: b :: rest) pos) (tV c (.vw .fz) fun δ => bndB (fa δ) fun x => if x then some (.ok (.bl true)) else fb δ) := by
  refine PE.imp (pe_or ha hb) fun σ H Q h => ?_
  obtain ⟨F, δ, E, h⟩ := h
  change Gv c (.vw .fz) F H σ Q (bndB (fa δ) _) at h
  rw [bndB_eq] at h
  refine tV.goV ca E h fun dx x F1 H1 u1 E1 hx h1 => ?_
  obtain ⟨A, hx⟩ := hx
  cases dx with
  | bl b =>
    have q := hx.is
    simp only [Is] at q
    refine ⟨b, q, ?_⟩
    cases b with
    | true => exact h1 _ F1 H1 (Up.refl u1.fh) ⟨[], Own.of_is (by simp only [Is])⟩
    | false => exact ⟨F1, δ, E1, h1⟩
  | _ => exact h1.elim
/-- a if t else b -/
theorem s_ife {t : Expr} (hc : PT X t (tT c fc)) (ha : PE X a (tV c ty fa)) (hb : PE X b (tV c ty fb)) : PE X (.IfExp t a b pos) (tV c ty fun δ => bndB (fc δ) fun x => if x then fa δ else fb δ) := by
  refine PE.imp (pe_ifExp hc ha hb) fun σ H Q h => ?_
  obtain ⟨F, δ, E, h⟩ := h
  refine tT.goV E h fun x F1 H1 u1 E1 h1 => ?_
  cases x with
  | true => exact ⟨F1, δ, E1, h1⟩
  | false => exact ⟨F1, δ, E1, h1⟩
/-- a type's forgetting -/
theorem s_fz (ha : PE X a (tV c ta fa)) (ca : coe ta .fz = true) : PE X a (tV c (.vw .fz) fa) := by
  refine PE.imp ha fun σ H Q h => ?_
  obtain ⟨F, δ, E, h⟩ := h
  rw [← bnd_id (fa δ)] at h
  exact tV.goV ca E h fun dx x F1 H1 u1 E1 hx h1 => h1 x F1 H1 (Up.refl u1.fh) hx
/-- two comparisons in a chain -/
theorem s_chain {op op' : CmpOp} {e3 : Expr} {f f' : D → D → Option Bool} (ho : OpS X c (compareOp op) oa ob fun x y => (f x y).map D.bl) (ho' : OpS X c (compareOp op') ob oc fun x y => (f' x y).map D.bl)
    (ha : PE X a (tV c ta fa)) (hb : PE X b (tV c tb fb)) (h3 : PE X e3 (tV c tc fc)) (ca : coe ta oa = true) (cb : coe tb ob = true) (cc : coe tc oc = true)
    (hm : lastMarks [op, op'] [b, e3] = false) : PT X (.Compare a [op, op'] [b, e3] pos) (tT c fun δ => bnd (fa δ) fun x => bnd (fb δ) fun y => bndB (okB (f x y)) fun k => if k then bnd (fc δ) fun z => okB (f' y z) else some (.ok (.bl false))) := by
  obtain ⟨r, hr, hf⟩ := ho
  obtain ⟨r', hr', hf'⟩ := ho'
  refine PT.imp (pt_chain hr hr' ha hb h3 hm) fun σ H Q h => ?_
  obtain ⟨F, δ, E, h⟩ := h
  refine tV.goT ca E h fun dx x F1 H1 u1 E1 hx h1 => ?_
  refine tV.goT cb E1 h1 fun dy y F2 H2 u2 E2 hy h2 => ?_
  obtain ⟨A, hx⟩ := hx
  obtain ⟨B, hy⟩ := hy
  cases e : f dx dy with
  | none => rw [e] at h2; exact h2.elim
  | some k =>
    rw [e] at h2
    refine hf F2 H2 x y dx dy (.bl k) A B _ u2.fh (hx.up u2) hy (by show (f dx dy).map D.bl = _; rw [e]; rfl) fun v F' H' u i => ?_
    simp only [Is] at i
    refine ⟨k, i, ?_⟩
    cases k with
    | false => exact ⟨false, rfl, h2 F' H' u⟩
    | true =>
      have h3 : Gt c F2 H2 σ Q (bnd (fc δ) fun z => okB (f' dy z)) := h2
      refine tV.goT cc (E2.up u) (h3.up u) fun dz z F4 H4 u4 E4 hz h4 => ?_
      obtain ⟨C, hz⟩ := hz
      obtain ⟨k2, e2, q⟩ := h4.okB
      refine hf' F4 H4 y z dy dz (.bl k2) B C _ u4.fh (hy.up (u.trans u4)) hz (by show (f' dy dz).map D.bl = _; rw [e2]; rfl) fun v F' H' u i => ?_
      simp only [Is] at i
      exact ⟨k2, i, q F' H' u⟩
/-! ### subscripts, slices -/
end Ev

set_option maxHeartbeats 4000000
/-! Ev, part E: items, slices, arguments, displays, fields. -/
namespace Ev
open PySem PySem.Spec PyProof.Rows L2
variable {X : Cx} {c : Cp} {F G H F' G' H' : Hp} {σ : L2.St} {δ : Env} {a b e : Expr} {pos : Pos} {ta tb tc ty : Ty} {oa ob oc o : OT} {fa fb fc : Env → Option R}
theorem PE.or {t t' : TE} (h : PE X e t) (h' : PE X e t') : PE X e (fun σ H Q => t σ H Q ∨ t' σ H Q) := ⟨fun pins s σ H Q I q => by
  rcases q with q | q
  · exact h.run pins s σ H Q I q
  · exact h'.run pins s σ H Q I q⟩
/-! ### what a list, a tuple shows -/
def elT : OT → OT
  | .lst o => o
  | _ => .fz
theorem OwnL.get {K : PySem.W.Frag} : ∀ {o : OT} {ds : List D} {vs : List V} {A : List Addr} {i : Nat} {d : D}, OwnL K F H o ds vs A → ds[i]? = some d → ∃ w, vs[i]? = some w ∧ ∃ B, Own K F H o d w B
  | _, [], _, _, _, _, _, e => by simp at e
  | o, d :: ds, _, _, 0, _, h, e => by
    simp only [OwnL] at h
    obtain ⟨v, r, A1, A2, rfl, h1, h2, rfl⟩ := h
    simp at e; subst e
    exact ⟨v, rfl, A1, h1⟩
  | o, d :: ds, _, _, i + 1, _, h, e => by
    simp only [OwnL] at h
    obtain ⟨v, r, A1, A2, rfl, h1, h2, rfl⟩ := h
    obtain ⟨w, e2, h3⟩ := OwnL.get (i := i) h2 (by simpa using e)
    exact ⟨w, by simpa using e2, h3⟩
theorem OwnL.length {K : PySem.W.Frag} : ∀ {o : OT} {ds : List D} {vs : List V} {A : List Addr}, OwnL K F H o ds vs A → vs.length = ds.length
  | _, [], _, _, h => by simp only [OwnL] at h; rw [h.1]; rfl
  | o, d :: ds, _, _, h => by
    simp only [OwnL] at h
    obtain ⟨v, r, A1, A2, rfl, h1, h2, rfl⟩ := h
    rw [List.length_cons, List.length_cons, OwnL.length h2]
theorem Own.lst {K : PySem.W.Frag} {ds : List D} {v : V} {A : List Addr} (h : Own K F H o (.lst ds) v A) (s : Same F H) :
    ∃ (p : Addr) (vs : List V), v = .ref p ∧ H p = some (.lst vs) ∧ vs.length = ds.length ∧ ∀ (i : Nat) (d : D), ds[i]? = some d → ∃ w, vs[i]? = some w ∧ ∃ B, Own K F H (elT o) d w B := by
  have fz : ∀ {A}, Own K F H .fz (.lst ds) v A → ∃ (p : Addr) (vs : List V), v = .ref p ∧ H p = some (.lst vs) ∧ vs.length = ds.length ∧ ∀ (i : Nat) (d : D), ds[i]? = some d → ∃ w, vs[i]? = some w ∧ ∃ B, Own K F H .fz d w B := fun {A} h => by
    have h := h.is
    simp only [Is] at h
    obtain ⟨p, vs, e, h1, h2⟩ := h
    refine ⟨p, vs, e, s _ _ h1, h2.length, fun i d e => ?_⟩
    obtain ⟨w, e2, h3⟩ := h2.get e
    exact ⟨w, e2, [], Own.of_is h3⟩
  cases o with
  | fz => exact fz h
  | bw =>
    simp only [Own] at h
    rcases h with ⟨rfl, h⟩ | ⟨ds', p, vs, e1, e2, h1, h2, rfl⟩ | ⟨ks, ds', p, kvs, e1, _⟩
    · exact fz (Own.of_is h)
    · cases e1
      refine ⟨p, vs, e2, h1, h2.length, fun i d e => ?_⟩
      obtain ⟨w, e2, h3⟩ := h2.get e
      exact ⟨w, e2, [], Own.of_is h3⟩
    · cases e1
  | lst o =>
    simp only [Own] at h
    obtain ⟨p, vs, B, e, h1, h2, rfl⟩ := h
    exact ⟨p, vs, e, h1, h2.length, fun i d e => h2.get e⟩
  | dic => simp [Own] at h
  | ins os => simp [Own] at h
theorem Own.tup {K : PySem.W.Frag} {ds : List D} {v : V} {A : List Addr} (h : Own K F H o (.tup ds) v A) (s : Same F H) :
    ∃ p vs, v = .ref p ∧ H p = some (.tup vs) ∧ IsL K F ds vs ∧ elT o = .fz := by
  have fz : ∀ {A}, Own K F H .fz (.tup ds) v A → ∃ p vs, v = .ref p ∧ H p = some (.tup vs) ∧ IsL K F ds vs := fun {A} h => by
    have h := h.is
    simp only [Is] at h
    obtain ⟨p, vs, e, h1, h2⟩ := h
    exact ⟨p, vs, e, s _ _ h1, h2⟩
  cases o with
  | fz => obtain ⟨p, vs, e, h1, h2⟩ := fz h; exact ⟨p, vs, e, h1, h2, rfl⟩
  | bw =>
    simp only [Own] at h
    rcases h with ⟨rfl, h⟩ | ⟨ds', p, vs, e1, e2, h1, h2, rfl⟩ | ⟨ks, ds', p, kvs, e1, _⟩
    · obtain ⟨p, vs, e, h1, h2⟩ := fz (Own.of_is h); exact ⟨p, vs, e, h1, h2, rfl⟩
    · cases e1
    · cases e1
  | lst o => simp [Own] at h
  | dic => simp [Own] at h
  | ins os => simp [Own] at h
theorem Own.dict {K : PySem.W.Frag} {ks : List Key} {ds : List D} {v : V} {A : List Addr} (h : Own K F H o (.dic ks ds) v A) (s : Same F H) :
    ∃ p kvs, v = .ref p ∧ H p = some (.dK kvs) ∧ kvs.map (·.1) = ks ∧ IsL K F ds (kvs.map (·.2)) ∧ elT o = .fz := by
  have fz : ∀ {A}, Own K F H .fz (.dic ks ds) v A → ∃ p kvs, v = .ref p ∧ H p = some (.dK kvs) ∧ kvs.map (·.1) = ks ∧ IsL K F ds (kvs.map (·.2)) := fun {A} h => by
    have h := h.is
    simp only [Is] at h
    obtain ⟨p, vs, e, h1, h2, h3⟩ := h
    exact ⟨p, vs, e, s _ _ h1, h2, h3⟩
  cases o with
  | fz => obtain ⟨p, vs, e, h1, h2, h3⟩ := fz h; exact ⟨p, vs, e, h1, h2, h3, rfl⟩
  | bw =>
    simp only [Own] at h
    rcases h with ⟨rfl, h⟩ | ⟨ds', p, vs, e1, e2, h1, h2, rfl⟩ | ⟨ks, ds', p, kvs, e1, e2, h1, h2, h3, rfl⟩
    · obtain ⟨p, vs, e, h1, h2, h3⟩ := fz (Own.of_is h); exact ⟨p, vs, e, h1, h2, h3, rfl⟩
    · cases e1
    · cases e1; exact ⟨p, kvs, e2, h1, h2, h3, rfl⟩
  | lst o => simp [Own] at h
  | dic =>
    simp only [Own] at h
    obtain ⟨p, kvs, e2, h1, h2, h3, rfl⟩ := h
    exact ⟨p, kvs, e2, h1, h2, h3, rfl⟩
  | ins os => simp [Own] at h
/-- a datum that is no list, tuple, dict, instance: frozen whatever its type says -/
theorem Own.scal {K : PySem.W.Frag} {d : D} {v : V} {A : List Addr} (h : Own K F H o d v A) (hd : (match d with | .lst _ => false | .dic _ _ => false | .ins _ _ => false | _ => true) = true) : Is K F d v := by
  cases o with
  | fz => exact h.is
  | bw =>
    simp only [Own] at h
    rcases h with ⟨_, h⟩ | ⟨ds', p, vs, e1, e2, h1, h2, rfl⟩ | ⟨ks, ds', p, kvs, e1, e2, h1, h2, h3, rfl⟩
    · exact h
    · subst e1; cases hd
    · subst e1; cases hd
  | _ => cases d <;> first | (simp [Own] at h; done) | cases hd
/-! ### a[b] -/
def keyD : D → Option Key
  | .int i => some (.inl i)
  | .str x => some (.inr x)
  | _ => none
def lookD (k : Key) : List Key → List D → Option D
  | j :: ks, d :: ds => if j = k then some d else lookD k ks ds
  | _, _ => none
def ixD (x y : D) : Option D := match x, y with
  | .lst ds, .int i => atI ds i
  | .tup ds, .int i => atI ds i
  | .str z, .int i => if z.length ≤ sizeLine then (atI z.cps.toList i).map fun q => .str ⟨#[q]⟩ else none
  | .lck ns, .int i => (atI ns i).map D.int
  | .dic ks ds, y => (keyD y).bind fun k => lookD k ks ds
  | _, _ => none
theorem atI_map {α β : Type} {xs : List α} {ys : List β} {i : Int} {x : α} (hl : ys.length = xs.length) (h : atI xs i = some x) : ∃ j : Nat, xs[j]? = some x ∧ ∀ y : β, ys[j]? = some y → atI ys i = some y := by
  unfold atI at h ⊢
  rw [hl]
  cases e : ixN xs.length i with
  | none => rw [e] at h; cases h
  | some j => rw [e] at h; exact ⟨j, h, fun y hy => hy⟩
theorem keyD_is {K : PySem.W.Frag} {d : D} {k : Key} {v : V} (e : keyD d = some k) (h : Is K H d v) : v = kV k := by
  cases d <;> simp [keyD] at e
  · subst e; simpa only [Is, kV] using h
  · subst e; simp only [Is] at h; exact h.1
theorem lookD_val {K : PySem.W.Frag} {k : Key} : ∀ {kvs : List (Key × V)} {ds : List D} {d : D}, IsL K F ds (kvs.map (·.2)) → lookD k (kvs.map (·.1)) ds = some d → ∃ v, valV kvs k = some v ∧ Is K F d v
  | [], ds, d, h, e => by cases ds <;> simp [lookD] at e
  | (j, w) :: r, [], d, h, e => by simp [lookD] at e
  | (j, w) :: r, x :: ds, d, h, e => by
    simp only [List.map_cons, IsL] at h
    obtain ⟨v, r2, e2, h1, h2⟩ := h
    cases e2
    simp only [List.map_cons, lookD] at e
    by_cases hj : j = k
    · rw [if_pos hj] at e
      cases e
      refine ⟨w, ?_, h1⟩
      unfold valV
      rw [List.find?_cons_of_pos (by simp [hj])]
      rfl
    · rw [if_neg hj] at e
      obtain ⟨v, e3, h3⟩ := lookD_val (kvs := r) h2 e
      refine ⟨v, ?_, h3⟩
      unfold valV at e3 ⊢
      rw [List.find?_cons_of_neg (by simp [hj])]
      exact e3
theorem lookD_none {k : Key} : ∀ {kvs : List (Key × V)} {ds : List D}, ds.length = kvs.length → lookD k (kvs.map (·.1)) ds = none → valV kvs k = none
  | [], ds, h, e => by unfold valV; rfl
  | (j, w) :: r, [], h, e => by simp at h
  | (j, w) :: r, x :: ds, h, e => by
    simp only [List.map_cons, lookD] at e
    by_cases hj : j = k
    · rw [if_pos hj] at e; cases e
    · rw [if_neg hj] at e
      have e3 := lookD_none (kvs := r) (ds := ds) (by simpa using h) e
      unfold valV at e3 ⊢
      rw [List.find?_cons_of_neg (by simp [hj])]
      exact e3
theorem strOk_iff {x : Str} : PyData.strOk x = true ↔ ∀ q ∈ x.cps.toList, q < 0x110000 := by
  unfold PyData.strOk
  rw [← Array.all_toList, List.all_eq_true]
  simp
theorem atI_mem {α : Type} {xs : List α} {i : Int} {x : α} (h : atI xs i = some x) : x ∈ xs := by
  unfold atI at h
  cases e : ixN xs.length i with
  | none => rw [e] at h; cases h
  | some j => rw [e] at h; exact List.mem_of_getElem? h
theorem strOk_at {z : Str} {i : Int} {q : Nat} (h : PyData.strOk z = true) (e : atI z.cps.toList i = some q) : PyData.strOk ⟨#[q]⟩ = true := by
  rw [strOk_iff] at h ⊢
  intro r hr
  have : r = q := by simpa using hr
  subst this
  exact h _ (atI_mem e)
theorem strOk_cut {z : Str} {lo hi : Option Int} (h : PyData.strOk z = true) : PyData.strOk (cutS z lo hi) = true := by
  rw [strOk_iff] at h ⊢
  intro r hr
  unfold cutS at hr
  exact h r (List.mem_of_mem_drop (List.mem_of_mem_take (by simpa using hr)))
/-- the index: not a slice, and no star -/
theorem s_ix (ha : PE X a (tV c ta fa)) (hb : PE X b (tV c tb fb)) (hta : ta = .vw o) (cb : coe tb .fz = true) (hs : PlainIx b) (hn : NoSl b) (hu : X.A.units + 1 < cLine) (hK : X.K = c.K) :
    PE X (.Subscript a b pos) (tV c (.vw (elT o)) fun δ => bnd (fa δ) fun x => bnd (fb δ) fun y => okO (ixD x y)) := by
  subst hta
  refine PE.imp (PE.or (pe_ix (ix_seq (X := X)) ha hb hs) (pe_dget hu ha hb hn)) fun σ H Q h => ?_
  obtain ⟨F, δ, E, h⟩ := h
  have cases2 : (∃ ks ds, fa δ = some (.ok (.dic ks ds))) ∨ ¬ ∃ ks ds, fa δ = some (.ok (.dic ks ds)) := Classical.em _
  rcases cases2 with hd | hd
  · refine .inr (tV.goW E h fun dx x F1 H1 e1 u1 E1 hx h1 => ?_)
    obtain ⟨ks, ds, e2⟩ := hd
    rw [e2] at e1; cases e1
    refine tV.goV cb E1 h1 fun dy y F2 H2 u2 E2 hy h2 => ?_
    obtain ⟨A, hx⟩ := hx
    obtain ⟨B, hy⟩ := hy
    have ex : ∃ d, ixD (.dic ks ds) dy = some d := by
      cases q : ixD (.dic ks ds) dy with
      | none => rw [q] at h2; exact h2.elim
      | some d => exact ⟨d, rfl⟩
    obtain ⟨d, e3⟩ := ex
    rw [e3] at h2
    obtain ⟨p, kvs, rfl, hp, rfl, hl, et⟩ := (hx.up u2).dict u2.fh
    cases e4 : keyD dy with
    | none => simp [ixD, e4] at e3
    | some k =>
      simp [ixD, e4] at e3
      obtain ⟨v, hv, hi⟩ := lookD_val hl e3
      have hy2 := keyD_is e4 hy.is
      subst hy2
      refine ⟨p, v, rfl, ?_, h2 v F2 H2 (Up.refl u2.fh) ⟨[], ?_⟩⟩
      · rw [← hv]; exact DGet.k hp
      · rw [et]; exact Own.of_is hi
  · refine .inl (tV.goW E h fun dx x F1 H1 e1 u1 E1 hx h1 => ?_)
    refine tV.goV cb E1 h1 fun dy y F2 H2 u2 E2 hy h2 => ?_
    obtain ⟨A, hx⟩ := hx
    obtain ⟨B, hy⟩ := hy
    have hx2 := hx.up u2
    have ex : ∃ d, ixD dx dy = some d := by
      cases q : ixD dx dy with
      | none => rw [q] at h2; exact h2.elim
      | some d => exact ⟨d, rfl⟩
    obtain ⟨d, e3⟩ := ex
    rw [e3] at h2
    have fin : ∀ v, (∃ C, Own c.K F2 H2 (elT o) d v C) → Q v H2 := fun v q => h2 v F2 H2 (Up.refl u2.fh) q
    have yi : ∀ i, dy = .int i → y = .int i := fun i e => by
      subst e
      have q := hy.is
      simpa only [Is] using q
    cases dx with
    | lst ds =>
      cases dy with
      | int i =>
        simp only [ixD] at e3
        obtain ⟨p, vs, rfl, hp, hl, hg⟩ := hx2.lst u2.fh
        obtain ⟨j, hj, hj2⟩ := atI_map hl e3
        obtain ⟨w, hw, hB⟩ := hg j d hj
        exact .inl ⟨p, vs, i, w, rfl, yi i rfl, SqL.of hp, hj2 w hw, fin w hB⟩
      | _ => simp [ixD] at e3
    | tup ds =>
      cases dy with
      | int i =>
        simp only [ixD] at e3
        obtain ⟨p, vs, rfl, hp, hl, et⟩ := hx2.tup u2.fh
        obtain ⟨j, hj, hj2⟩ := atI_map hl.length e3
        obtain ⟨w, hw, hB⟩ := hl.get hj
        exact .inr (.inl ⟨p, vs, i, w, rfl, yi i rfl, SqT.of hp, hj2 w hw, fin w ⟨[], by rw [et]; exact Own.of_is hB⟩⟩)
      | _ => simp [ixD] at e3
    | str z =>
      cases dy with
      | int i =>
        simp only [ixD] at e3
        by_cases hz : z.length ≤ sizeLine
        · rw [if_pos hz] at e3
          cases e4 : atI z.cps.toList i with
          | none => rw [e4] at e3; cases e3
          | some q =>
            rw [e4] at e3
            cases e3
            have q1 := hx2.scal rfl
            simp only [Is] at q1
            have et : elT o = .fz := by cases o <;> first | rfl | (simp [Own] at hx2; done)
            exact .inr (.inr ⟨z, i, q, q1.1, yi i rfl, hz, e4, fin _ ⟨[], by rw [et]; exact Own.of_is (Is.str (strOk_at q1.2 e4))⟩⟩)
        · rw [if_neg hz] at e3; cases e3
      | _ => simp [ixD] at e3
    | lck ns =>
      cases dy with
      | int i =>
        simp only [ixD] at e3
        cases e4 : atI ns i with
        | none => rw [e4] at e3; cases e3
        | some q =>
          rw [e4] at e3
          cases e3
          have q1 := hx2.scal rfl
          simp only [Is] at q1
          obtain ⟨p, rfl, hp⟩ := q1
          have et : elT o = .fz := by cases o <;> first | rfl | (simp [Own] at hx2; done)
          obtain ⟨j, hj, hj2⟩ := atI_map (ys := ns.map V.int) (by simp) e4
          exact .inl ⟨p, ns.map V.int, i, .int q, rfl, yi i rfl, hK ▸ u2.fh.seq hp, hj2 _ (by rw [List.getElem?_map, hj]; rfl), fin _ ⟨[], by rw [et]; exact Own.of_is (by simp only [Is])⟩⟩
      | _ => simp [ixD] at e3
    | dic ks ds => exact (hd ⟨ks, ds, e1⟩).elim
    | _ => simp [ixD] at e3
/-! ### slices -/
def cutG {α : Type} (xs : List α) (lo hi : Option Int) : List α := (xs.drop (HT.sIx xs.length 0 lo)).take (HT.sIx xs.length xs.length hi - HT.sIx xs.length 0 lo)
theorem cutG_is {K : PySem.W.Frag} {ds : List D} {vs : List V} {lo hi : Option Int} (h : IsL K F ds vs) : IsL K F (cutG ds lo hi) (cutV vs lo hi) := by
  unfold cutG cutV
  rw [h.length]
  exact (h.drop _).take _
def slD (x : D) (lo hi : Option Int) : Option D := match x with
  | .lst ds => some (.lst (cutG ds lo hi))
  | .tup ds => some (.tup (cutG ds lo hi))
  | .str z => if z.length ≤ sizeLine then some (.str (cutS z lo hi)) else none
  | _ => none
/-- a part of a slice -/
def evP (f : Option (Env → Option R)) (δ : Env) (k : Option Int → Option R) : Option R := match f with
  | none => k none
  | some f => bnd (f δ) fun d => match d with
    | .int i => k (some i)
    | _ => none
def tP (c : Cp) : Option (Ty × (Env → Option R)) → TO
  | none => tNoPart
  | some (ty, f) => tPart (tV c ty f)
theorem tP.go {p : Option (Ty × (Env → Option R))} {Q1 : Option Int → Hp → Prop} {Q : VK} {k : Option Int → Option R} (hp : ∀ q, p = some q → Ev.coe q.1 .fz = true) (E : c.E F H σ δ) (h : Gv c ty F H σ Q (evP (p.map (·.2)) δ k))
    (hk : ∀ i F1 H1, Up F H F1 H1 → c.E F1 H1 σ δ → Gv c ty F1 H1 σ Q (k i) → Q1 i H1) : tP c p σ H Q1 := by
  cases p with
  | none => exact hk none F H (Up.refl E.fh) E h
  | some q =>
    obtain ⟨ty, f⟩ := q
    refine tV.goV (hp _ rfl) E h fun d x F1 H1 u1 E1 hx h1 => ?_
    obtain ⟨A, hx⟩ := hx
    cases d with
    | int i =>
      have q := hx.is
      simp only [Is] at q
      exact ⟨i, q, hk (some i) F1 H1 u1 E1 h1⟩
    | _ => exact h1.elim
def elO : OT → Bool
  | .lst .fz => true
  | .lst _ => false
  | .ins _ => false
  | _ => true
theorem elO_fz {o : OT} (h : elO o = true) : elT o = .fz := by
  cases o with
  | lst o => cases o <;> first | rfl | cases h
  | _ => rfl
/-- a list by its items, all frozen -/
theorem Own.lstF {K : PySem.W.Frag} {ds : List D} {v : V} {A : List Addr} (ho : elO o = true) (h : Own K F H o (.lst ds) v A) (s : Same F H) : ∃ p vs, v = .ref p ∧ H p = some (.lst vs) ∧ IsL K F ds vs := by
  cases o with
  | fz =>
    have h := h.is
    simp only [Is] at h
    obtain ⟨p, vs, e, h1, h2⟩ := h
    exact ⟨p, vs, e, s _ _ h1, h2⟩
  | bw =>
    simp only [Own] at h
    rcases h with ⟨_, h⟩ | ⟨ds', p, vs, e1, e2, h1, h2, rfl⟩ | ⟨ks, ds', p, kvs, e1, _⟩
    · simp only [Is] at h
      obtain ⟨p, vs, e, h1, h2⟩ := h
      exact ⟨p, vs, e, s _ _ h1, h2⟩
    · cases e1
      exact ⟨p, vs, e2, h1, h2⟩
    · cases e1
  | lst o =>
    cases o with
    | fz =>
      simp only [Own] at h
      obtain ⟨p, vs, B, e, h1, h2, rfl⟩ := h
      exact ⟨p, vs, e, h1, h2.fz.2⟩
    | _ => cases ho
  | dic => simp [Own] at h
  | ins os => cases ho
theorem PO_of {e : Option Expr} {p : Option (Ty × (Env → Option R))} (h : match e, p with
    | none, none => True
    | some e, some (ty, f) => PE X e (tV c ty f)
    | _, _ => False) : PO X e (tP c p) := by
  cases e with
  | none =>
    cases p with
    | none => exact po_none
    | some q => exact h.elim
  | some e =>
    cases p with
    | none => exact h.elim
    | some q => exact po_some h
theorem s_sl {lo hi : Option Expr} {p2 : Pos} {pl pu : Option (Ty × (Env → Option R))} (ha : PE X a (tV c ta fa)) (hl : PO X lo (tP c pl)) (hu : PO X hi (tP c pu)) (hta : ta = .vw o) (ho : elO o = true)
    (cl : ∀ q, pl = some q → Ev.coe q.1 .fz = true) (cu : ∀ q, pu = some q → Ev.coe q.1 .fz = true) :
    PE X (.Subscript a (.Slice lo hi none p2) pos) (tV c (.vw .fz) fun δ => bnd (fa δ) fun x => evP (pl.map (·.2)) δ fun l => evP (pu.map (·.2)) δ fun u => okO (slD x l u)) := by
  subst hta
  refine PE.imp (pe_slice (sl_list.or (sl_tupA.or sl_str)) ha hl hu) fun σ H Q h => ?_
  obtain ⟨F, δ, E, h⟩ := h
  refine tV.goW E h fun dx x F1 H1 e1 u1 E1 hx h1 => ?_
  refine tP.go cl E1 h1 fun l F2 H2 u2 E2 h2 => ?_
  refine tP.go cu E2 h2 fun r F3 H3 u3 E3 h3 => ?_
  obtain ⟨A, hx⟩ := hx
  have hx2 := hx.up (u2.trans u3)
  obtain ⟨d, e3, q⟩ := h3.okO
  cases dx with
  | lst ds =>
    cases e3
    obtain ⟨p, vs, rfl, hp, hi⟩ := hx2.lstF ho u3.fh
    refine .inl ⟨p, vs, rfl, SqL.of hp, fun z hz => q _ _ _ (Up.newF u3.fh hz) ?_⟩
    simp only [Is]
    exact ⟨z, _, rfl, upd_same, (cutG_is hi).mono (Up.newF (o := .lst (cutV vs l r)) u3.fh hz).ff⟩
  | tup ds =>
    cases e3
    obtain ⟨p, vs, rfl, hp, hi, et⟩ := hx2.tup u3.fh
    refine .inr (.inl ⟨p, vs, rfl, SqT.of hp, fun hw => ?_, fun hw z hz => q _ _ _ (Up.newF u3.fh hz) ?_⟩)
    · have ef : Is c.K F3 (.tup ds) (.ref p) := by
        cases o with
        | fz => exact hx2.is
        | bw =>
          simp only [Own] at hx2
          rcases hx2 with ⟨_, h⟩ | ⟨ds', p, vs, e1, _⟩ | ⟨ks, ds', p, kvs, e1, _⟩
          · exact h
          · cases e1
          · cases e1
        | _ => simp [Own] at hx2
      refine q _ F3 H3 (Up.refl u3.fh) ?_
      have e4 : cutG ds l r = ds := by
        unfold cutG
        rw [← hi.length, hw.1, hw.2, List.drop_zero, hi.length]
        simp
      rw [e4]; exact ef
    · simp only [Is]
      exact ⟨z, _, rfl, upd_same, (cutG_is hi).mono (Up.newF (o := .tup (cutV vs l r)) u3.fh hz).ff⟩
  | str z =>
    simp only [slD] at e3
    by_cases hz : z.length ≤ sizeLine
    · rw [if_pos hz] at e3
      cases e3
      have q1 := hx2.scal rfl
      simp only [Is] at q1
      exact .inr (.inr ⟨z, q1.1, hz, q _ F3 H3 (Up.refl u3.fh) (Is.str (strOk_cut q1.2))⟩)
    · rw [if_neg hz] at e3; cases e3
  | _ => simp [slD] at e3
/-! ### arguments, displays -/
def consL (r : Option R) (k : Option RL) : Option RL := match r with
  | some (.ok d) => (match k with
    | some (.ok ds) => some (.ok (d :: ds))
    | k => k)
  | some (.ex x) => some (.ex x)
  | none => none
theorem a_nil : PA X [] (tL c [] fun _ => some (.ok [])) := by
  refine PA.imp pa_nil fun σ H Q h => ?_
  obtain ⟨F, δ, E, h⟩ := h
  exact h [] F H (Up.refl E.fh) (by simp only [ViewL])
theorem a_cons {es : List Expr} {os : List OT} {fs : Env → Option RL} (he : PE X e (tV c ta fa)) (hr : PA X es (tL c os fs)) (ca : coe ta o = true) (hs : starEach (e :: es) X.env = (false, eval e X.env) :: starEach es X.env) :
    PA X (e :: es) (tL c (o :: os) fun δ => consL (fa δ) (fs δ)) := by
  refine PA.imp (pa_cons he hr hs) fun σ H Q h => ?_
  obtain ⟨F, δ, E, h⟩ := h
  change Gl' c (o :: os) F H σ Q (consL (fa δ) (fs δ)) at h
  refine ⟨F, δ, E, ?_⟩
  cases e1 : fa δ with
  | none => rw [e1] at h; exact h
  | some r =>
    rw [e1] at h
    cases r with
    | ex x => exact h
    | ok d =>
      intro v F1 H1 u p
      obtain ⟨F2, u2, s2, A, ow⟩ := p.coe u ca
      refine ⟨F2, δ, E.up u2, ?_⟩
      cases e2 : fs δ with
      | none => rw [e2] at h; exact h
      | some r =>
        rw [e2] at h
        cases r with
        | ex x => exact Bad.up h u2
        | ok ds =>
          intro vs F3 H3 u3 w
          refine h (v :: vs) F3 H3 (u2.trans u3) ?_
          simp only [ViewL]
          exact ⟨v, vs, rfl, ⟨A, ow.up u3⟩, w⟩
theorem ViewL.isL {K : PySem.W.Frag} : ∀ {os : List OT} {ds : List D} {vs : List V}, (∀ o ∈ os, o = .fz) → ViewL K F H os ds vs → IsL K F ds vs ∧ ds.length = os.length
  | [], [], _, _, h => ⟨h, rfl⟩
  | o :: os, d :: ds, _, k, h => by
    simp only [ViewL] at h
    obtain ⟨v, r, rfl, ⟨A, h1⟩, h2⟩ := h
    obtain ⟨h3, h4⟩ := ViewL.isL (fun o ho => k o (by simp [ho])) h2
    have e := k o (by simp)
    subst e
    exact ⟨⟨v, r, rfl, h1.is, h3⟩, by simp [h4]⟩
  | [], _ :: _, _, _, h => by simp [ViewL] at h
  | _ :: _, [], _, _, h => by simp [ViewL] at h
/-- the arguments ahead of the rest -/
theorem tL.go {os : List OT} {fs : Env → Option RL} {Q1 : List V → Hp → Prop} {Gd : Hp → Hp → Option R → Prop} {k : List D → Option R} (E : c.E F H σ δ)
    (hb : ∀ x, Gd F H (some (.ex x)) → Bad c F H σ x) (hn : ¬ Gd F H none) (hup : ∀ r F1 H1, Gd F H r → Up F H F1 H1 → Gd F1 H1 r) (h : Gd F H (bndL (fs δ) k))
    (hk : ∀ ds vs F1 H1, Up F H F1 H1 → c.E F1 H1 σ δ → ViewL c.K F1 H1 os ds vs → Gd F1 H1 (k ds) → Q1 vs H1) : tL c os fs σ H Q1 := by
  refine ⟨F, δ, E, ?_⟩
  cases e : fs δ with
  | none => rw [e] at h; exact (hn h).elim
  | some r =>
    rw [e] at h
    cases r with
    | ex x => exact hb x h
    | ok ds => exact fun vs F1 H1 u w => hk ds vs F1 H1 u (E.up u) w (hup _ _ _ h u)
theorem tL.goV {os : List OT} {fs : Env → Option RL} {Q1 : List V → Hp → Prop} {Q : VK} {k : List D → Option R} (E : c.E F H σ δ) (h : Gv c ty F H σ Q (bndL (fs δ) k))
    (hk : ∀ ds vs F1 H1, Up F H F1 H1 → c.E F1 H1 σ δ → ViewL c.K F1 H1 os ds vs → Gv c ty F1 H1 σ Q (k ds) → Q1 vs H1) : tL c os fs σ H Q1 :=
  tL.go (Gd := fun F H r => Gv c ty F H σ Q r) E (fun _ h => h) (fun h => h) (fun _ _ _ g u => g.up u) h hk
theorem s_tup {es : List Expr} {k : Nat} {os : List OT} {fs : Env → Option RL} (he : PA X es (tL c os fs)) (hf : ∀ o ∈ os, o = .fz) (hl : os.length ≤ 1000) :
    PE X (.Tuple es k pos) (tV c (.vw .fz) fun δ => bndL (fs δ) fun ds => some (.ok (.tup ds))) := by
  refine PE.imp (pe_tup he) fun σ H Q h => ?_
  obtain ⟨F, δ, E, h⟩ := h
  refine tL.goV E h fun ds vs F1 H1 u1 E1 w h1 => ?_
  obtain ⟨w1, w2⟩ := w.isL hf
  refine ⟨by rw [w1.length, w2]; exact Nat.le_trans hl (by decide), fun p hp => h1 _ _ _ (Up.newF u1.fh hp) ⟨[], Own.of_is ?_⟩⟩
  simp only [Is]
  exact ⟨p, vs, rfl, upd_same, w1.mono (Up.newF (o := .tup vs) u1.fh hp).ff⟩
theorem s_lst {es : List Expr} {os : List OT} {fs : Env → Option RL} (he : PA X es (tL c os fs)) (hf : ∀ o ∈ os, o = .fz) (hl : os.length ≤ 1000) :
    PE X (.List es pos) (tV c (.fr (.lst .fz)) fun δ => bndL (fs δ) fun ds => some (.ok (.lst ds))) := by
  refine PE.imp (pe_lst he) fun σ H Q h => ?_
  obtain ⟨F, δ, E, h⟩ := h
  refine tL.goV E h fun ds vs F1 H1 u1 E1 w h1 => ?_
  obtain ⟨w1, w2⟩ := w.isL hf
  refine ⟨by rw [w1.length, w2]; exact Nat.le_trans hl (by decide), fun p hp => h1 _ _ _ (Up.new u1.fh hp) ⟨[p], ?_, by simp, fun a ha => ?_⟩⟩
  · simp only [Own]
    exact ⟨p, vs, [], rfl, upd_same, OwnL.of_fz w1, rfl⟩
  · have e : a = p := by simpa using ha
    subst e
    refine ⟨hp, ?_⟩
    cases q : F1 a with
    | none => rfl
    | some u => rw [u1.fh _ _ q] at hp; cases hp
end Ev

set_option maxHeartbeats 4000000
/-! Ev, part F: the operators on data. -/
namespace Ev
open PySem PySem.Spec PyProof.Rows L2
variable {X : Cx} {c : Cp} {F G H F' G' H' : Hp} {σ : L2.St} {δ : Env} {a b e : Expr} {pos : Pos} {ta tb tc ty : Ty} {oa ob oc o : OT} {fa fb fc : Env → Option R}
/-! ### equality -/
mutual
def eqB : D → D → Bool
  | .non, .non => true
  | .bl a, .bl b => a == b
  | .bl a, .int j => decide ((if a then 1 else 0) = j)
  | .int i, .bl b => decide (i = if b then 1 else 0)
  | .int i, .int j => decide (i = j)
  | .str x, .str y => decide (x = y)
  | .tup xs, .tup ys => eqBs xs ys
  | .lst xs, .lst ys => eqBs xs ys
  | _, _ => false
def eqBs : List D → List D → Bool
  | [], [] => true
  | x :: xs, y :: ys => eqB x y && eqBs xs ys
  | _, _ => false
end
mutual
/-- data that == may meet: nested below n -/
def okD : Nat → D → Bool
  | _, .non => true
  | _, .bl _ => true
  | _, .int _ => true
  | _, .str _ => true
  | n + 1, .tup xs => okDs n xs
  | n + 1, .lst xs => okDs n xs
  | _, _ => false
def okDs : Nat → List D → Bool
  | _, [] => true
  | n, x :: xs => okD n x && okDs n xs
end
mutual
def pyOf : D → PyData
  | .bl b => .bool b
  | .int i => .int i
  | .str x => .str x
  | .tup xs => .tuple (pyOfs xs)
  | .lst xs => .list (pyOfs xs)
  | _ => .none
def pyOfs : List D → List PyData
  | [] => []
  | x :: xs => pyOf x :: pyOfs xs
end
mutual
theorem pyOf_ok {K : PySem.W.Frag} : ∀ {d : D} {n : Nat} {v : V}, okD n d = true → Is K H d v → Dp K H v (pyOf d) ∧ (pyOf d).canLay0 = true ∧ (pyOf d).depth ≤ n
  | .non, n, v, _, h => by simp only [Is] at h; subst h; exact ⟨.non, by simp [pyOf, PyData.canLay0], by simp [pyOf, PyData.depth]⟩
  | .bl b, n, v, _, h => by simp only [Is] at h; subst h; exact ⟨.bl b, by simp [pyOf, PyData.canLay0], by simp [pyOf, PyData.depth]⟩
  | .int i, n, v, _, h => by simp only [Is] at h; subst h; exact ⟨.int i, by simp [pyOf, PyData.canLay0], by simp [pyOf, PyData.depth]⟩
  | .str x, n, v, _, h => by
    simp only [Is] at h
    obtain ⟨rfl, h⟩ := h
    exact ⟨.str x, by simp [pyOf, PyData.canLay0, h], by simp [pyOf, PyData.depth]⟩
  | .tup xs, 0, v, e, h => by simp [okD] at e
  | .tup xs, n + 1, v, e, h => by
    simp only [okD] at e
    simp only [Is] at h
    obtain ⟨p, vs, rfl, hp, hi⟩ := h
    obtain ⟨h1, h2, h3⟩ := pyOfs_ok e hi
    exact ⟨.tup (SqT.of hp) h1, by simp only [pyOf, PyData.canLay0]; exact h2, by simp only [pyOf, PyData.depth]; omega⟩
  | .lst xs, 0, v, e, h => by simp [okD] at e
  | .lst xs, n + 1, v, e, h => by
    simp only [okD] at e
    simp only [Is] at h
    obtain ⟨p, vs, rfl, hp, hi⟩ := h
    obtain ⟨h1, h2, h3⟩ := pyOfs_ok e hi
    exact ⟨.lst (SqL.of hp) h1, by simp only [pyOf, PyData.canLay0]; exact h2, by simp only [pyOf, PyData.depth]; omega⟩
  | .dic _ _, _, _, e, _ => by simp [okD] at e
  | .ins _ _, _, _, e, _ => by simp [okD] at e
  | .lck _, _, _, e, _ => by simp [okD] at e
  | .cl _, _, _, e, _ => by simp [okD] at e
  | .xv, _, _, e, _ => by simp [okD] at e
theorem pyOfs_ok {K : PySem.W.Frag} : ∀ {ds : List D} {n : Nat} {vs : List V}, okDs n ds = true → IsL K H ds vs → DpAll K H vs (pyOfs ds) ∧ PyData.canLayAll0 (pyOfs ds) = true ∧ PyData.depthAll (pyOfs ds) ≤ n
  | [], n, vs, _, h => by simp only [IsL] at h; subst h; exact ⟨.nil, by simp [pyOfs, PyData.canLayAll0], by simp [pyOfs, PyData.depthAll]⟩
  | d :: ds, n, vs, e, h => by
    simp only [okDs, Bool.and_eq_true] at e
    simp only [IsL] at h
    obtain ⟨v, r, rfl, h1, h2⟩ := h
    obtain ⟨a1, a2, a3⟩ := pyOf_ok e.1 h1
    obtain ⟨b1, b2, b3⟩ := pyOfs_ok e.2 h2
    exact ⟨.cons a1 b1, by simp [pyOfs, PyData.canLayAll0, a2, b2], by simp only [pyOfs, PyData.depthAll]; omega⟩
end
mutual
theorem eqB_py : ∀ {x y : D} {n m : Nat}, okD n x = true → okD m y = true → PyData.eqv (pyOf x) (pyOf y) = eqB x y
  | .non, y, n, m, _, k => by cases y <;> first | (simp [pyOf, PyData.eqv, eqB]; done) | (cases m <;> simp [okD] at k; done)
  | .bl a, y, n, m, _, k => by
    cases y <;> first
      | (simp only [pyOf, PyData.eqv, eqB]; done)
      | (simp [pyOf, PyData.eqv, eqB, Bool.beq_eq_decide_eq]; done)
      | (cases m <;> simp [okD] at k; done)
  | .int a, y, n, m, _, k => by
    cases y <;> first
      | (simp only [pyOf, PyData.eqv, eqB]; done)
      | (simp [pyOf, PyData.eqv, eqB, Bool.beq_eq_decide_eq]; done)
      | (cases m <;> simp [okD] at k; done)
  | .str a, y, n, m, _, k => by
    cases y <;> first
      | (simp only [pyOf, PyData.eqv, eqB]; done)
      | (simp [pyOf, PyData.eqv, eqB, Bool.beq_eq_decide_eq]; done)
      | (cases m <;> simp [okD] at k; done)
      | (simp only [pyOf, PyData.eqv, eqB]; rw [Bool.eq_iff_iff]; simp)
  | .tup xs, y, n, m, h, k => by
    cases n with
    | zero => simp [okD] at h
    | succ n =>
      simp only [okD] at h
      cases y <;> first
        | (cases m with
          | zero => simp [okD] at k; done
          | succ m =>
            simp only [okD] at k
            simp only [pyOf, PyData.eqv, eqB]
            exact eqBs_py h k)
        | (simp only [pyOf, PyData.eqv, eqB]; done)
        | (cases m <;> simp [okD] at k; done)
        | (cases m <;> (simp only [pyOf, PyData.eqv, eqB]; done))
  | .lst xs, y, n, m, h, k => by
    cases n with
    | zero => simp [okD] at h
    | succ n =>
      simp only [okD] at h
      cases y <;> first
        | (cases m with
          | zero => simp [okD] at k; done
          | succ m =>
            simp only [okD] at k
            simp only [pyOf, PyData.eqv, eqB]
            exact eqBs_py h k)
        | (simp only [pyOf, PyData.eqv, eqB]; done)
        | (cases m <;> simp [okD] at k; done)
        | (cases m <;> (simp only [pyOf, PyData.eqv, eqB]; done))
  | .dic _ _, _, n, _, h, _ => by cases n <;> simp [okD] at h
  | .ins _ _, _, n, _, h, _ => by cases n <;> simp [okD] at h
  | .lck _, _, n, _, h, _ => by cases n <;> simp [okD] at h
  | .cl _, _, n, _, h, _ => by cases n <;> simp [okD] at h
  | .xv, _, n, _, h, _ => by cases n <;> simp [okD] at h
theorem eqBs_py : ∀ {xs ys : List D} {n m : Nat}, okDs n xs = true → okDs m ys = true → PyData.eqvAll (pyOfs xs) (pyOfs ys) = eqBs xs ys
  | [], [], _, _, _, _ => by simp [pyOfs, PyData.eqvAll, eqBs]
  | [], _ :: _, _, _, _, _ => by simp [pyOfs, PyData.eqvAll, eqBs]
  | _ :: _, [], _, _, _, _ => by simp [pyOfs, PyData.eqvAll, eqBs]
  | x :: xs, y :: ys, n, m, h, k => by
    simp only [okDs, Bool.and_eq_true] at h k
    simp only [pyOfs, PyData.eqvAll, eqBs]
    rw [eqB_py h.1 k.1, eqBs_py h.2 k.2]
end
def eqD (x y : D) : Option Bool := if okD 60 x && okD 60 y then some (eqB x y) else none
theorem shaped_of {d : D} {v : V} {K : PySem.W.Frag} (e : okD 60 d = true) (h : Is K H d v) : Dp K H v (pyOf d) ∧ SeqAt.shaped (pyOf d) = true := by
  obtain ⟨h1, h2, h3⟩ := pyOf_ok e h
  refine ⟨h1, ?_⟩
  unfold SeqAt.shaped
  rw [h2]
  simp only [Bool.true_and, decide_eq_true_eq]
  omega
theorem o_eq (hu : X.A.units + 64 < cLine) (hK : X.K = c.K) : OpS X c (compareOp .Eq) .bw .bw fun x y => (eqD x y).map D.bl := by
  refine ⟨_, op_eqD hu, fun F H x y dx dy d A B Q s hx hy e q => ?_⟩
  change (eqD dx dy).map D.bl = some d at e
  unfold eqD at e
  by_cases g : (okD 60 dx && okD 60 dy) = true
  · rw [if_pos g] at e
    cases e
    obtain ⟨g1, g2⟩ := Bool.and_eq_true_iff.mp g
    obtain ⟨a1, a2⟩ := shaped_of g1 (hx.see s)
    obtain ⟨b1, b2⟩ := shaped_of g2 (hy.see s)
    refine ⟨_, _, hK ▸ a1, hK ▸ b1, a2, b2, q _ F H (Up.refl s) ?_⟩
    rw [eqB_py g1 g2]
    simp only [Is]
  · rw [if_neg g] at e; cases e
theorem o_ne (hu : X.A.units + 64 < cLine) (hK : X.K = c.K) : OpS X c (compareOp .NotEq) .bw .bw fun x y => ((eqD x y).map (!·)).map D.bl := by
  refine ⟨_, op_neD hu, fun F H x y dx dy d A B Q s hx hy e q => ?_⟩
  change ((eqD dx dy).map (!·)).map D.bl = some d at e
  unfold eqD at e
  by_cases g : (okD 60 dx && okD 60 dy) = true
  · rw [if_pos g] at e
    cases e
    obtain ⟨g1, g2⟩ := Bool.and_eq_true_iff.mp g
    obtain ⟨a1, a2⟩ := shaped_of g1 (hx.see s)
    obtain ⟨b1, b2⟩ := shaped_of g2 (hy.see s)
    refine ⟨_, _, hK ▸ a1, hK ▸ b1, a2, b2, q _ F H (Up.refl s) ?_⟩
    rw [eqB_py g1 g2]
    simp only [Is]
  · rw [if_neg g] at e; cases e
/-! ### arithmetic -/
theorem Own.int {K : PySem.W.Frag} {i : Int} {v : V} {A : List Addr} (h : Own K F H .bw (.int i) v A) : v = .int i := by
  have q := h.scal rfl
  simpa only [Is] using q
theorem Own.strV {K : PySem.W.Frag} {x : Str} {v : V} {A : List Addr} (h : Own K F H .bw (.str x) v A) : v = .str x ∧ PyData.strOk x = true := by
  have q := h.scal rfl
  simpa only [Is] using q
theorem strOk_app {x y : Str} (h : PyData.strOk x = true) (k : PyData.strOk y = true) : PyData.strOk (x ++ y) = true := by
  rw [strOk_iff] at h k ⊢
  intro q hq
  have e : (x ++ y).cps.toList = x.cps.toList ++ y.cps.toList := by
    show (x.cps ++ y.cps).toList = _
    simp
  rw [e] at hq
  rcases List.mem_append.mp hq with z | z
  · exact h q z
  · exact k q z
def addD (x y : D) : Option D := match x, y with
  | .int i, .int j => some (.int (i + j))
  | .str x, .str y => if x.length + y.length ≤ sizeLine then some (.str (x ++ y)) else none
  | .lst xs, .lst ys => if xs.length + ys.length ≤ sizeLine then some (.lst (xs ++ ys)) else none
  | .tup xs, .tup ys => if xs.length + ys.length ≤ sizeLine then some (.tup (xs ++ ys)) else none
  | _, _ => none
theorem Own.tupIs {K : PySem.W.Frag} {ds : List D} {v : V} {A : List Addr} (h : Own K F H .bw (.tup ds) v A) : Is K F (.tup ds) v := h.scal rfl
theorem o_add : OpS X c (binaryOp .Add) .bw .bw addD := by
  refine ⟨_, op_add.or (op_add_str.or (op_cat.or op_catA)), fun F H x y dx dy d A B Q s hx hy e q => ?_⟩
  cases dx with
  | int i =>
    cases dy with
    | int j =>
      cases e
      exact .inl ⟨i, j, hx.int, hy.int, q _ F H (Up.refl s) (by simp only [Is])⟩
    | _ => simp [addD] at e
  | str z =>
    cases dy with
    | str w =>
      simp only [addD] at e
      by_cases g : z.length + w.length ≤ sizeLine
      · rw [if_pos g] at e
        cases e
        exact .inr (.inl ⟨z, w, hx.strV.1, hy.strV.1, g, q _ F H (Up.refl s) (Is.str (strOk_app hx.strV.2 hy.strV.2))⟩)
      · rw [if_neg g] at e; cases e
    | _ => simp [addD] at e
  | lst xs =>
    cases dy with
    | lst ys =>
      simp only [addD] at e
      by_cases g : xs.length + ys.length ≤ sizeLine
      · rw [if_pos g] at e
        cases e
        obtain ⟨p, vs, rfl, hp, hi⟩ := hx.lstF rfl s
        obtain ⟨p', ws, rfl, hp', hi'⟩ := hy.lstF rfl s
        refine .inr (.inr (.inl ⟨p, p', vs, ws, rfl, rfl, hp, hp', by rw [hi.length, hi'.length]; exact g, fun l hl => q _ _ _ (Up.newF s hl) ?_⟩))
        simp only [Is]
        exact ⟨l, _, rfl, upd_same, (hi.append hi').mono (Up.newF (o := .lst (vs ++ ws)) s hl).ff⟩
      · rw [if_neg g] at e; cases e
    | _ => simp [addD] at e
  | tup xs =>
    cases dy with
    | tup ys =>
      simp only [addD] at e
      by_cases g : xs.length + ys.length ≤ sizeLine
      · rw [if_pos g] at e
        cases e
        obtain ⟨p, vs, rfl, hp, hi, _⟩ := hx.tup s
        obtain ⟨p', ws, rfl, hp', hi', _⟩ := hy.tup s
        refine .inr (.inr (.inr ⟨p, p', vs, ws, rfl, rfl, SqT.of hp, SqT.of hp', by rw [hi.length, hi'.length]; exact g, fun z => ?_, fun _ z => ?_, fun _ _ l hl => q _ _ _ (Up.newF s hl) ?_⟩))
        · refine q _ F H (Up.refl s) ?_
          have : xs = [] := by
            have := hi.length; rw [z] at this
            exact List.length_eq_zero_iff.mp this.symm
          rw [this]; exact hy.tupIs
        · refine q _ F H (Up.refl s) ?_
          have : ys = [] := by
            have := hi'.length; rw [z] at this
            exact List.length_eq_zero_iff.mp this.symm
          rw [this, List.append_nil]; exact hx.tupIs
        · simp only [Is]
          exact ⟨l, _, rfl, upd_same, (hi.append hi').mono (Up.newF (o := .tup (vs ++ ws)) s hl).ff⟩
      · rw [if_neg g] at e; cases e
    | _ => simp [addD] at e
  | _ => simp [addD] at e
def subD (x y : D) : Option D := match x, y with
  | .int i, .int j => some (.int (i - j))
  | _, _ => none
theorem o_sub : OpS X c (binaryOp .Sub) .bw .bw subD := by
  refine ⟨_, op_sub, fun F H x y dx dy d A B Q s hx hy e q => ?_⟩
  cases dx with
  | int i =>
    cases dy with
    | int j =>
      cases e
      exact ⟨i, j, hx.int, hy.int, q _ F H (Up.refl s) (by simp only [Is])⟩
    | _ => simp [subD] at e
  | _ => simp [subD] at e
def smallI (i : Int) : Bool := decide (-(2 ^ 64) < i ∧ i < 2 ^ 64)
def mulD (x y : D) : Option D := match x, y with
  | .int i, .int j => if smallI i || smallI j then some (.int (i * j)) else none
  | .str x, .int j => if decide (0 ≤ j) && decide (j ≤ 1000) && decide (x.length ≤ 1000) then some (.str (Txt.mul x j)) else none
  | .lst xs, .int j => if decide (0 ≤ j) && decide (j ≤ 1000) && decide (xs.length ≤ 1000) then some (.lst (List.replicate j.toNat xs).flatten) else none
  | _, _ => none
theorem IsL.rep {K : PySem.W.Frag} {F : Hp} {ds : List D} {vs : List V} (h : IsL K F ds vs) : ∀ n : Nat, IsL K F (List.replicate n ds).flatten (List.replicate n vs).flatten
  | 0 => by simp [IsL]
  | n + 1 => by
    rw [List.replicate_succ, List.replicate_succ, List.flatten_cons, List.flatten_cons]
    exact h.append (IsL.rep h n)
theorem foldl_app (x : Array Nat) : ∀ (n : Nat) (a : Array Nat), ((List.replicate n x).foldl (· ++ ·) a).toList = a.toList ++ (List.replicate n x.toList).flatten
  | 0, a => by simp
  | n + 1, a => by
    rw [List.replicate_succ, List.foldl_cons, foldl_app x n, List.replicate_succ, List.flatten_cons]
    simp
theorem strOk_mul {x : Str} {n : Int} (h : PyData.strOk x = true) : PyData.strOk (Txt.mul x n) = true := by
  unfold Txt.mul
  by_cases h1 : n < 1
  · rw [if_pos h1]; decide +kernel
  · rw [if_neg h1]
    by_cases h2 : (n == 1 || x.length == 0) = true
    · rw [if_pos h2]; exact h
    · rw [if_neg h2, strOk_iff]
      rw [strOk_iff] at h
      intro q hq
      rw [show ((⟨(List.replicate n.toNat x.cps).foldl (· ++ ·) #[]⟩ : Str)).cps = (List.replicate n.toNat x.cps).foldl (· ++ ·) #[] from rfl, foldl_app] at hq
      simp only [List.nil_append, List.mem_flatten, List.mem_replicate, Array.toList_empty] at hq
      obtain ⟨l, ⟨_, rfl⟩, hl⟩ := hq
      exact h q hl
theorem op_mul_str {X : Cx} : OpR X (binaryOp .Mult) (fun x y H Q => ∃ z j, x = .str z ∧ y = .int j ∧ MulOk z j ∧ Q (.str (Txt.mul z j)) H) := by
  intro pins s σ H x y v u Q I rx ry h
  obtain ⟨z, j, rfl, rfl, ok, q⟩ := h
  obtain ⟨t, rfl⟩ := rx
  obtain ⟨t', rfl⟩ := ry
  exact SB.mul ok fun t k => ⟨.str _, H, I.tok _, ⟨_, rfl⟩, q⟩
theorem mulOk_small {x : Str} {n : Int} (h0 : 0 ≤ n) (h1 : n ≤ 1000) (h2 : x.length ≤ 1000) : MulOk x n := by
  refine ⟨?_, fun h h' => ?_, fun h h' => ?_⟩
  · rw [Bool.or_eq_false_iff]
    exact ⟨decide_eq_false (by omega), decide_eq_false (by omega)⟩
  · have : (1000 : Int) ≤ (2 ^ 63 - 1) / n := by
      rw [Int.le_ediv_iff_mul_le (by omega)]
      omega
    omega
  · unfold Builtin.Str.tooLong
    have : x.length * n.toNat ≤ 1000 * 1000 := Nat.mul_le_mul h2 (by omega)
    first
      | (apply decide_eq_false; rw [sizeLine_eq]; omega)
      | (simp; omega)
theorem o_mul : OpS X c (binaryOp .Mult) .bw .bw mulD := by
  refine ⟨_, op_mul.or (op_mul_str.or op_rep), fun F H x y dx dy d A B Q s hx hy e q => ?_⟩
  cases dx with
  | int i =>
    cases dy with
    | int j =>
      simp only [mulD] at e
      by_cases g : (smallI i || smallI j) = true
      · rw [if_pos g] at e
        cases e
        refine .inl ⟨i, j, hx.int, hy.int, ?_, q _ F H (Up.refl s) (by simp only [Is])⟩
        rcases Bool.or_eq_true_iff.mp g with z | z
        · exact .inl (of_decide_eq_true z)
        · exact .inr (of_decide_eq_true z)
      · rw [if_neg g] at e; cases e
    | _ => simp [mulD] at e
  | str z =>
    cases dy with
    | int j =>
      simp only [mulD] at e
      by_cases g : (decide (0 ≤ j) && decide (j ≤ 1000) && decide (z.length ≤ 1000)) = true
      · rw [if_pos g] at e
        cases e
        obtain ⟨g1, g3⟩ := Bool.and_eq_true_iff.mp g
        obtain ⟨g1, g2⟩ := Bool.and_eq_true_iff.mp g1
        exact .inr (.inl ⟨z, j, hx.strV.1, hy.int, mulOk_small (of_decide_eq_true g1) (of_decide_eq_true g2) (of_decide_eq_true g3), q _ F H (Up.refl s) (Is.str (strOk_mul hx.strV.2))⟩)
      · rw [if_neg g] at e; cases e
    | _ => simp [mulD] at e
  | lst xs =>
    cases dy with
    | int j =>
      simp only [mulD] at e
      by_cases g : (decide (0 ≤ j) && decide (j ≤ 1000) && decide (xs.length ≤ 1000)) = true
      · rw [if_pos g] at e
        cases e
        obtain ⟨g1, g3⟩ := Bool.and_eq_true_iff.mp g
        obtain ⟨g1, g2⟩ := Bool.and_eq_true_iff.mp g1
        have g1 := of_decide_eq_true g1
        have g2 := of_decide_eq_true g2
        have g3 := of_decide_eq_true g3
        obtain ⟨p, vs, rfl, hp, hi⟩ := hx.lstF rfl s
        refine .inr (.inr ⟨p, j, vs, rfl, hy.int, hp, by omega, by omega, ?_, fun l hl => q _ _ _ (Up.newF s hl) ?_⟩)
        · have hl : vs.length ≤ 1000 := by rw [hi.length]; exact g3
          have : vs.length * j.toNat ≤ 1000 * 1000 := Nat.mul_le_mul hl (by omega)
          rw [sizeLine_eq]; omega
        · simp only [Is]
          exact ⟨l, _, rfl, upd_same, (IsL.rep hi j.toNat).mono (Up.newF (o := .lst (List.replicate j.toNat vs).flatten) s hl).ff⟩
      · rw [if_neg g] at e; cases e
    | _ => simp [mulD] at e
  | _ => simp [mulD] at e
def divD (x y : D) : Option D := match x, y with
  | .int i, .int j => if decide (0 < j) && decide (j < 1073741824) then some (.int (i / j)) else none
  | _, _ => none
theorem o_div : OpS X c (binaryOp .FloorDiv) .bw .bw divD := by
  refine ⟨_, op_fdiv, fun F H x y dx dy d A B Q s hx hy e q => ?_⟩
  cases dx with
  | int i =>
    cases dy with
    | int j =>
      simp only [divD] at e
      by_cases g : (decide (0 < j) && decide (j < 1073741824)) = true
      · rw [if_pos g] at e
        cases e
        obtain ⟨g1, g2⟩ := Bool.and_eq_true_iff.mp g
        exact ⟨i, j, hx.int, hy.int, ⟨of_decide_eq_true g1, of_decide_eq_true g2⟩, q _ F H (Up.refl s) (by simp only [Is])⟩
      · rw [if_neg g] at e; cases e
    | _ => simp [divD] at e
  | _ => simp [divD] at e
def modD (x y : D) : Option D := match x, y with
  | .int i, .int j => if decide (0 < j) then some (.int (i % j)) else none
  | _, _ => none
theorem o_mod : OpS X c (binaryOp .Mod) .bw .bw modD := by
  refine ⟨_, op_mod, fun F H x y dx dy d A B Q s hx hy e q => ?_⟩
  cases dx with
  | int i =>
    cases dy with
    | int j =>
      simp only [modD] at e
      by_cases g : (decide (0 < j)) = true
      · rw [if_pos g] at e
        cases e
        exact ⟨i, j, hx.int, hy.int, of_decide_eq_true g, q _ F H (Up.refl s) (by simp only [Is])⟩
      · rw [if_neg g] at e; cases e
    | _ => simp [modD] at e
  | _ => simp [modD] at e
def powD (x y : D) : Option D := match x, y with
  | .int i, .int j => if decide (0 ≤ j) && decide (j ≤ 100) && decide (i.natAbs < 2 ^ 64) then some (.int (i ^ j.toNat)) else none
  | _, _ => none
theorem o_pow : OpS X c (binaryOp .Pow) .bw .bw powD := by
  refine ⟨_, op_pow, fun F H x y dx dy d A B Q s hx hy e q => ?_⟩
  cases dx with
  | int i =>
    cases dy with
    | int j =>
      simp only [powD] at e
      by_cases g : (decide (0 ≤ j) && decide (j ≤ 100) && decide (i.natAbs < 2 ^ 64)) = true
      · rw [if_pos g] at e
        cases e
        obtain ⟨g1, g3⟩ := Bool.and_eq_true_iff.mp g
        obtain ⟨g1, g2⟩ := Bool.and_eq_true_iff.mp g1
        have g2 := of_decide_eq_true g2
        exact ⟨i, j, hx.int, hy.int, ⟨of_decide_eq_true g1, by omega, of_decide_eq_true g3⟩, q _ F H (Up.refl s) (by simp only [Is])⟩
      · rw [if_neg g] at e; cases e
    | _ => simp [powD] at e
  | _ => simp [powD] at e
/-! ### comparisons of ints -/
def cmpI (p : Int → Int → Bool) (x y : D) : Option Bool := match x, y with
  | .int i, .int j => some (p i j)
  | _, _ => none
theorem o_cmpI {g : Value → Value → Sem Value} {p : Int → Int → Bool} (h : OpR X g (rI0 fun i j => .bl (p i j))) : OpS X c g .bw .bw fun x y => (cmpI p x y).map D.bl := by
  refine ⟨_, h, fun F H x y dx dy d A B Q s hx hy e q => ?_⟩
  cases dx with
  | int i =>
    cases dy with
    | int j =>
      cases e
      exact ⟨i, j, hx.int, hy.int, q _ F H (Up.refl s) (by simp only [Is])⟩
    | _ => simp [cmpI] at e
  | _ => simp [cmpI] at e
/-- is None, is not None -/
def isN (x y : D) : Option Bool := match x, y with
  | .non, .non => some true
  | _, .non => some false
  | _, _ => none
theorem isN_ok {K : PySem.W.Frag} {d : D} {v : V} (h : Is K H d v) : isN d .non = some (decide (v = .non)) := by
  cases d <;> simp only [Is] at h <;> first
    | (subst h; rfl)
    | (obtain ⟨rfl, _⟩ := h; rfl)
    | (obtain ⟨_, _, rfl, _⟩ := h; rfl)
    | (obtain ⟨_, _, _, rfl, _⟩ := h; rfl)
    | (obtain ⟨_, rfl, _⟩ := h; rfl)
theorem isN_y {x y : D} {k : Bool} (h : isN x y = some k) : y = .non := by
  cases y <;> first | rfl | (cases x <;> simp [isN] at h)
theorem o_is : OpS X c (compareOp .Is) .bw .bw fun x y => (isN x y).map D.bl := by
  refine ⟨_, op_isN, fun F H x y dx dy d A B Q s hx hy e q => ?_⟩
  change (isN dx dy).map D.bl = some d at e
  cases g : isN dx dy with
  | none => rw [g] at e; cases e
  | some k =>
    rw [g] at e; cases e
    have e2 := isN_y g
    subst e2
    have q2 := hy.scal rfl
    simp only [Is] at q2
    have e3 := isN_ok (hx.see s)
    rw [g] at e3
    exact ⟨q2, q _ F H (Up.refl s) (by simp only [Is]; rw [← Option.some.inj e3])⟩
theorem o_isnot : OpS X c (compareOp .IsNot) .bw .bw fun x y => ((isN x y).map (!·)).map D.bl := by
  refine ⟨_, op_notN, fun F H x y dx dy d A B Q s hx hy e q => ?_⟩
  change ((isN dx dy).map (!·)).map D.bl = some d at e
  cases g : isN dx dy with
  | none => rw [g] at e; cases e
  | some k =>
    rw [g] at e; cases e
    have e2 := isN_y g
    subst e2
    have q2 := hy.scal rfl
    simp only [Is] at q2
    have e3 := isN_ok (hx.see s)
    rw [g] at e3
    exact ⟨q2, q _ F H (Up.refl s) (by simp only [Is]; rw [← Option.some.inj e3])⟩
end Ev

set_option maxHeartbeats 4000000
/-! Ev, part G: in, built-in functions, fields, calls. -/
namespace Ev
open PySem PySem.Spec PyProof.Rows L2
variable {X : Cx} {c : Cp} {F G H F' G' H' : Hp} {σ : L2.St} {δ : Env} {a b e : Expr} {pos : Pos} {ta tb tc ty : Ty} {oa ob oc o : OT} {fa fb fc : Env → Option R}
/-! ### in -/
def inS (x y : D) : Option Bool := match y with
  | .lst ds => if okD 59 x && okDs 59 ds then some (ds.any fun z => eqB z x) else none
  | .tup ds => if okD 59 x && okDs 59 ds then some (ds.any fun z => eqB z x) else none
  | .str z => (match x with
    | .str w => (match w.cps.toList with
      | [q] => some (decide (q ∈ z.cps.toList))
      | _ => none)
    | _ => none)
  | _ => none
def inD (x y : D) : Option Bool := match y with
  | .dic ks ds => (keyD x).map fun k => ks.any fun j => decide (j = k)
  | y => inS x y
theorem op_inTD {X : Cx} (hu : X.A.units + 65 < cLine) : OpR X (compareOp .In) (fun x y H Q => ∃ d ds, Dp X.K H x d ∧ Dp X.K H y (.tuple ds) ∧ SeqAt.shaped d = true ∧ SeqAt.shaped (.tuple ds) = true ∧ Q (.bl (ds.any fun z => PyData.eqv z d)) H) := by
  intro pins s σ H x y v u Q I rx ry h
  obtain ⟨d, ds, hd, he, sd, se, q⟩ := h
  obtain ⟨as, r1⟩ := Dp.reads I d x v hd rx
  obtain ⟨bs, r2⟩ := Dp.reads I (.tuple ds) y u he ry
  exact SeqAt.in_tuple_reads r2 r1 (SeqAt.canLay_of_shaped se) (SeqAt.canLay_of_shaped sd) (room_in_shaped sd hu) ⟨.bl _, H, I, rfl, q⟩
theorem op_notInTD {X : Cx} (hu : X.A.units + 65 < cLine) : OpR X (compareOp .NotIn) (fun x y H Q => ∃ d ds, Dp X.K H x d ∧ Dp X.K H y (.tuple ds) ∧ SeqAt.shaped d = true ∧ SeqAt.shaped (.tuple ds) = true ∧ Q (.bl (!ds.any fun z => PyData.eqv z d)) H) := by
  intro pins s σ H x y v u Q I rx ry h
  obtain ⟨d, ds, hd, he, sd, se, q⟩ := h
  obtain ⟨as, r1⟩ := Dp.reads I d x v hd rx
  obtain ⟨bs, r2⟩ := Dp.reads I (.tuple ds) y u he ry
  exact SeqAt.notIn_tuple_reads r2 r1 (SeqAt.canLay_of_shaped se) (SeqAt.canLay_of_shaped sd) (room_in_shaped sd hu) ⟨.bl _, H, I, rfl, q⟩
theorem okDs_get : ∀ {n : Nat} {ds : List D}, okDs n ds = true → ∀ d ∈ ds, okD n d = true
  | n, [], _, d, h => by cases h
  | n, x :: xs, k, d, h => by
    simp only [okDs, Bool.and_eq_true] at k
    rcases List.mem_cons.mp h with rfl | h
    · exact k.1
    · exact okDs_get k.2 d h
theorem any_py {x : D} {n m : Nat} : ∀ {ds : List D}, okDs n ds = true → okD m x = true → ((pyOfs ds).any fun z => PyData.eqv z (pyOf x)) = ds.any fun z => eqB z x
  | [], _, _ => rfl
  | d :: ds, h, k => by
    simp only [okDs, Bool.and_eq_true] at h
    simp only [pyOfs, List.any_cons]
    rw [eqB_py h.1 k, any_py h.2 k]
mutual
theorem okD_mono : ∀ {d : D} {n m : Nat}, okD n d = true → n ≤ m → okD m d = true
  | .non, _, _, _, _ => by simp [okD]
  | .bl _, _, _, _, _ => by simp [okD]
  | .int _, _, _, _, _ => by simp [okD]
  | .str _, _, _, _, _ => by simp [okD]
  | .tup xs, 0, _, h, _ => by simp [okD] at h
  | .tup xs, n + 1, 0, h, l => by omega
  | .tup xs, n + 1, m + 1, h, l => by simp only [okD] at h ⊢; exact okDs_mono h (by omega)
  | .lst xs, 0, _, h, _ => by simp [okD] at h
  | .lst xs, n + 1, 0, h, l => by omega
  | .lst xs, n + 1, m + 1, h, l => by simp only [okD] at h ⊢; exact okDs_mono h (by omega)
  | .dic _ _, n, _, h, _ => by cases n <;> simp [okD] at h
  | .ins _ _, n, _, h, _ => by cases n <;> simp [okD] at h
  | .lck _, n, _, h, _ => by cases n <;> simp [okD] at h
  | .cl _, n, _, h, _ => by cases n <;> simp [okD] at h
  | .xv, n, _, h, _ => by cases n <;> simp [okD] at h
theorem okDs_mono : ∀ {ds : List D} {n m : Nat}, okDs n ds = true → n ≤ m → okDs m ds = true
  | [], _, _, _, _ => by simp [okDs]
  | x :: xs, n, m, h, l => by
    simp only [okDs, Bool.and_eq_true] at h ⊢
    exact ⟨okD_mono h.1 l, okDs_mono h.2 l⟩
end
theorem sign_of {w : Str} {q : Nat} (h : w.cps.toList = [q]) : w = ⟨#[q]⟩ := by
  obtain ⟨a⟩ := w
  have : a = #[q] := by
    apply Array.toList_inj.mp
    rw [h]
  rw [this]
/-- the rule for what is no dict -/
theorem o_in (hu : X.A.units + 65 < cLine) (hK : X.K = c.K) : OpS X c (compareOp .In) .bw .bw fun x y => (inS x y).map D.bl := by
  refine ⟨_, (op_inD hu).or ((op_inTD hu).or op_in_sign), fun F H x y dx dy d A B Q s hx hy e q => ?_⟩
  change (inS dx dy).map D.bl = some d at e
  cases dy with
  | lst ds =>
    simp only [inS] at e
    by_cases g : (okD 59 dx && okDs 59 ds) = true
    · rw [if_pos g] at e
      cases e
      obtain ⟨g1, g2⟩ := Bool.and_eq_true_iff.mp g
      obtain ⟨a1, a2⟩ := shaped_of (okD_mono g1 (by omega)) (hx.see s)
      obtain ⟨b1, b2⟩ := shaped_of (d := .lst ds) (by simp only [okD]; exact g2) (hy.see s)
      refine .inl ⟨pyOf dx, pyOfs ds, hK ▸ a1, hK ▸ (by simpa only [pyOf] using b1), a2, by simpa only [pyOf] using b2, q _ F H (Up.refl s) ?_⟩
      rw [any_py g2 g1]
      simp only [Is]
    · rw [if_neg g] at e; cases e
  | tup ds =>
    simp only [inS] at e
    by_cases g : (okD 59 dx && okDs 59 ds) = true
    · rw [if_pos g] at e
      cases e
      obtain ⟨g1, g2⟩ := Bool.and_eq_true_iff.mp g
      obtain ⟨a1, a2⟩ := shaped_of (okD_mono g1 (by omega)) (hx.see s)
      obtain ⟨b1, b2⟩ := shaped_of (d := .tup ds) (by simp only [okD]; exact g2) (hy.see s)
      refine .inr (.inl ⟨pyOf dx, pyOfs ds, hK ▸ a1, hK ▸ (by simpa only [pyOf] using b1), a2, by simpa only [pyOf] using b2, q _ F H (Up.refl s) ?_⟩)
      rw [any_py g2 g1]
      simp only [Is]
    · rw [if_neg g] at e; cases e
  | str z =>
    cases dx with
    | str w =>
      simp only [inS] at e
      split at e
      · rename_i r hr
        cases e
        refine .inr (.inr ⟨r, z, ?_, hy.strV.1, q _ F H (Up.refl s) (by simp only [Is])⟩)
        rw [← sign_of hr]
        exact hx.strV.1
      · cases e
    | _ => simp [inS] at e
  | _ => simp [inS] at e
theorem o_notin (hu : X.A.units + 65 < cLine) (hK : X.K = c.K) : OpS X c (compareOp .NotIn) .bw .bw fun x y => ((inS x y).map (!·)).map D.bl := by
  refine ⟨_, (op_notInD hu).or ((op_notInTD hu).or op_notIn_sign), fun F H x y dx dy d A B Q s hx hy e q => ?_⟩
  change ((inS dx dy).map (!·)).map D.bl = some d at e
  cases dy with
  | lst ds =>
    simp only [inS] at e
    by_cases g : (okD 59 dx && okDs 59 ds) = true
    · rw [if_pos g] at e
      cases e
      obtain ⟨g1, g2⟩ := Bool.and_eq_true_iff.mp g
      obtain ⟨a1, a2⟩ := shaped_of (okD_mono g1 (by omega)) (hx.see s)
      obtain ⟨b1, b2⟩ := shaped_of (d := .lst ds) (by simp only [okD]; exact g2) (hy.see s)
      refine .inl ⟨pyOf dx, pyOfs ds, hK ▸ a1, hK ▸ (by simpa only [pyOf] using b1), a2, by simpa only [pyOf] using b2, q _ F H (Up.refl s) ?_⟩
      rw [any_py g2 g1]
      simp only [Is]
    · rw [if_neg g] at e; cases e
  | tup ds =>
    simp only [inS] at e
    by_cases g : (okD 59 dx && okDs 59 ds) = true
    · rw [if_pos g] at e
      cases e
      obtain ⟨g1, g2⟩ := Bool.and_eq_true_iff.mp g
      obtain ⟨a1, a2⟩ := shaped_of (okD_mono g1 (by omega)) (hx.see s)
      obtain ⟨b1, b2⟩ := shaped_of (d := .tup ds) (by simp only [okD]; exact g2) (hy.see s)
      refine .inr (.inl ⟨pyOf dx, pyOfs ds, hK ▸ a1, hK ▸ (by simpa only [pyOf] using b1), a2, by simpa only [pyOf] using b2, q _ F H (Up.refl s) ?_⟩)
      rw [any_py g2 g1]
      simp only [Is]
    · rw [if_neg g] at e; cases e
  | str z =>
    cases dx with
    | str w =>
      simp only [inS] at e
      split at e
      · rename_i r hr
        cases e
        refine .inr (.inr ⟨r, z, ?_, hy.strV.1, q _ F H (Up.refl s) (by simp only [Is])⟩)
        rw [← sign_of hr]
        exact hx.strV.1
      · cases e
    | _ => simp [inS] at e
  | _ => simp [inS] at e
theorem valV_isSome {k : Key} : ∀ {kvs : List (Key × V)}, (valV kvs k).isSome = (kvs.map (·.1)).any fun j => decide (j = k)
  | [] => by simp [valV]
  | (j, w) :: r => by
    by_cases h : j = k
    · rw [valV_pos (p := (j, w)) h]; simp [h]
    · rw [valV_neg (p := (j, w)) h, valV_isSome (kvs := r)]
      simp [h]
theorem PT.or {t t' : TT} (h : PT X e t) (h' : PT X e t') : PT X e (fun σ H Q => t σ H Q ∨ t' σ H Q) := ⟨fun pins s σ H Q I q => by
  rcases q with q | q
  · exact h.run pins s σ H Q I q
  · exact h'.run pins s σ H Q I q⟩
/-- x in d, x not in d: neg tells which -/
def inN (neg : Bool) (x y : D) : Option Bool := if neg then (inD x y).map (!·) else inD x y
def opIn (neg : Bool) : CmpOp := if neg then .NotIn else .In
theorem inN_S {neg : Bool} {x y : D} (h : ¬ ∃ ks ds, y = .dic ks ds) : inN neg x y = if neg then (inS x y).map (!·) else inS x y := by
  unfold inN
  have : inD x y = inS x y := by
    cases y <;> first | rfl | exact (h ⟨_, _, rfl⟩).elim
  rw [this]
theorem o_inN (neg : Bool) (hu : X.A.units + 65 < cLine) (hK : X.K = c.K) : OpS X c (compareOp (opIn neg)) .bw .bw fun x y => (if neg then (inS x y).map (!·) else inS x y).map D.bl := by
  cases neg with
  | true => exact o_notin hu hK
  | false => exact o_in hu hK
/-- the dict's part -/
theorem pc_inN (neg : Bool) {ty td : TE} (hu : X.A.units + 1 < cLine) (hi : PE X a ty) (ho : PE X b td) : PC X (opIn neg) a b (fun σ H Q => ty σ H fun y H1 => td σ H1 fun x H2 => ∃ p o, x = .ref p ∧ DGet H2 p y o ∧ Q (.bl (if neg then !o.isSome else o.isSome)) H2) := by
  cases neg with
  | true => exact pc_dnotin hu hi ho
  | false => exact pc_din hu hi ho
theorem dict_in {neg : Bool} {ks : List Key} {ds : List D} {dx : D} {x y : V} {k : Bool} {A B : List Addr} {P : Bool → Hp → Prop} (s : Same F H) (hx : Own c.K F H .bw dx x A) (hy : Own c.K F H .bw (.dic ks ds) y B) (e : inN neg dx (.dic ks ds) = some k)
    (q : P k H) : ∃ p o, y = .ref p ∧ DGet H p x o ∧ P (if neg then !o.isSome else o.isSome) H := by
  obtain ⟨p, kvs, rfl, hp, rfl, hl, _⟩ := hy.dict s
  cases e4 : keyD dx with
  | none => cases neg <;> simp [inN, inD, e4] at e
  | some j =>
    have hx2 := keyD_is e4 (hx.see s)
    subst hx2
    refine ⟨p, _, rfl, DGet.k hp, ?_⟩
    rw [valV_isSome]
    cases neg with
    | true =>
      simp only [inN, inD, e4] at e
      cases e
      exact q
    | false =>
      simp only [inN, inD, e4] at e
      cases e
      exact q
theorem s_in {neg : Bool} (hu : X.A.units + 65 < cLine) (hK : X.K = c.K) (ha : PE X a (tV c ta fa)) (hb : PE X b (tV c tb fb)) (ca : coe ta .bw = true) (cb : coe tb .bw = true) (hm : behindInMarks (opIn neg) b = false) :
    PE X (.Compare a [opIn neg] [b] pos) (tV c (.vw .fz) fun δ => bnd (fa δ) fun x => bnd (fb δ) fun y => okB (inN neg x y)) := by
  obtain ⟨r, hr, hf⟩ := o_inN (c := c) neg hu hK
  refine PE.imp (PE.or (pe_cmpR hr ha hb hm) (pe_cmp (pc_inN neg (by omega) ha hb) hm)) fun σ H Q h => ?_
  obtain ⟨F, δ, E, h⟩ := h
  have cases2 : (∃ ks ds, fb δ = some (.ok (.dic ks ds))) ∨ ¬ ∃ ks ds, fb δ = some (.ok (.dic ks ds)) := Classical.em _
  rcases cases2 with ⟨ks, ds, hd⟩ | hd
  · refine .inr (tV.goV ca E h fun dx x F1 H1 u1 E1 hx h1 => ?_)
    refine tV.go (Gd := fun F H r => Gv c (.vw .fz) F H σ Q r) cb E1 (fun _ h => h) (fun h => h) (fun _ _ _ g u => g.up u) h1 fun dy y F2 H2 e2 u2 E2 hy h2 => ?_
    rw [hd] at e2; cases e2
    obtain ⟨A, hx⟩ := hx
    obtain ⟨B, hy⟩ := hy
    obtain ⟨k, e, q⟩ := h2.okB
    exact dict_in (P := fun k H => Q (.bl k) H) u2.fh (hx.up u2) hy e (q F2 H2 (Up.refl u2.fh))
  · refine .inl (tV.goV ca E h fun dx x F1 H1 u1 E1 hx h1 => ?_)
    refine tV.go (Gd := fun F H r => Gv c (.vw .fz) F H σ Q r) cb E1 (fun _ h => h) (fun h => h) (fun _ _ _ g u => g.up u) h1 fun dy y F2 H2 e2 u2 E2 hy h2 => ?_
    obtain ⟨A, hx⟩ := hx
    obtain ⟨B, hy⟩ := hy
    obtain ⟨k, e, q⟩ := h2.okB
    rw [inN_S (fun ⟨ks, ds, z⟩ => hd ⟨ks, ds, by rw [e2, z]⟩)] at e
    refine hf F2 H2 x y dx dy (.bl k) A B Q u2.fh (hx.up u2) hy (by show (if neg = true then _ else _ : Option Bool).map D.bl = _; rw [e]; rfl) fun v F' H' u i => ?_
    simp only [Is] at i
    rw [i]; exact q F' H' u
theorem t_in {neg : Bool} (hu : X.A.units + 65 < cLine) (hK : X.K = c.K) (ha : PE X a (tV c ta fa)) (hb : PE X b (tV c tb fb)) (ca : coe ta .bw = true) (cb : coe tb .bw = true) (hm : behindInMarks (opIn neg) b = false) :
    PT X (.Compare a [opIn neg] [b] pos) (tT c fun δ => bnd (fa δ) fun x => bnd (fb δ) fun y => okB (inN neg x y)) := by
  obtain ⟨r, hr, hf⟩ := o_inN (c := c) neg hu hK
  refine PT.imp (PT.or (pt_cmpR hr ha hb hm) (pt_cmp (pc_inN neg (by omega) ha hb) hm)) fun σ H Q h => ?_
  obtain ⟨F, δ, E, h⟩ := h
  have cases2 : (∃ ks ds, fb δ = some (.ok (.dic ks ds))) ∨ ¬ ∃ ks ds, fb δ = some (.ok (.dic ks ds)) := Classical.em _
  rcases cases2 with ⟨ks, ds, hd⟩ | hd
  · refine .inr (tV.goT ca E h fun dx x F1 H1 u1 E1 hx h1 => ?_)
    refine tV.go (Gd := fun F H r => Gt c F H σ Q r) cb E1 (fun _ h => h) (fun h => h) (fun _ _ _ g u => g.up u) h1 fun dy y F2 H2 e2 u2 E2 hy h2 => ?_
    rw [hd] at e2; cases e2
    obtain ⟨A, hx⟩ := hx
    obtain ⟨B, hy⟩ := hy
    obtain ⟨k, e, q⟩ := h2.okB
    refine dict_in (P := fun k H => ∃ c, V.bl k = .bl c ∧ Q c H) u2.fh (hx.up u2) hy e ⟨k, rfl, q F2 H2 (Up.refl u2.fh)⟩
  · refine .inl (tV.goT ca E h fun dx x F1 H1 u1 E1 hx h1 => ?_)
    refine tV.go (Gd := fun F H r => Gt c F H σ Q r) cb E1 (fun _ h => h) (fun h => h) (fun _ _ _ g u => g.up u) h1 fun dy y F2 H2 e2 u2 E2 hy h2 => ?_
    obtain ⟨A, hx⟩ := hx
    obtain ⟨B, hy⟩ := hy
    obtain ⟨k, e, q⟩ := h2.okB
    rw [inN_S (fun ⟨ks, ds, z⟩ => hd ⟨ks, ds, by rw [e2, z]⟩)] at e
    refine hf F2 H2 x y dx dy (.bl k) A B _ u2.fh (hx.up u2) hy (by show (if neg = true then _ else _ : Option Bool).map D.bl = _; rw [e]; rfl) fun v F' H' u i => ?_
    simp only [Is] at i
    exact ⟨k, i, q F' H' u⟩
end Ev

set_option maxHeartbeats 4000000
/-! Ev, part H: built-in functions, fields, own defs called. -/
namespace Ev
open PySem PySem.Spec PyProof.Rows L2
variable {X : Cx} {c : Cp} {F G H F' G' H' : Hp} {σ : L2.St} {δ : Env} {a b e : Expr} {es : List Expr} {pos p : Pos} {x : Str} {ta tb tc ty : Ty} {oa ob oc o : OT} {os : List OT} {fa fb fc : Env → Option R} {fs : Env → Option RL}
/-! ### built-in functions -/
def CallS (X : Cx) (c : Cp) (f : Value) (os : List OT) (ty : Ty) (g : List D → Option D) : Prop := ∃ r, CallR X f r ∧
  ∀ (F H : Hp) (vs : List V) (ds : List D) (d : D) (Q : VK), Same F H → ViewL c.K F H os ds vs → g ds = some d → (∀ v F' H', Up F H F' H' → Post c.K H F' H' ty d v → Q v H') → r vs H Q
theorem Gv.okT {Q : VK} {r : Option D} (g : Gv c ty F H σ Q (Ev.okO r)) : ∃ d, r = some d ∧ ∀ v F' H', Up F H F' H' → Post c.K H F' H' ty d v → Q v H' := by
  cases r with
  | none => exact g.elim
  | some d => exact ⟨d, rfl, g⟩
theorem s_callB {id : String} {g : List D → Option D} (h : CallS X c (.builtin id) os ty g) (hg : Gl X x) (hm : X.mg x = none) (hv : bootBuiltins x = some (.builtin id)) (ha : PA X (e :: es) (tL c os fs)) (hn : x ≠ "__name__") (hdb : (x == ("__debug__" : Str)) = false)
    (he : starEach (e :: es) X.env = (false, eval e X.env) :: starEach es X.env) (hpl : (backTo pos (starEach es X.env)).any (·.1) = false) :
    PE X (.Call (.Name x p) (e :: es) [] pos) (tV c ty fun δ => bndL (fs δ) fun ds => okO (g ds)) := by
  obtain ⟨r, hr, hf⟩ := h
  refine PE.imp (pe_callB hr hg hm hv ha hn hdb he hpl) fun σ H Q h => ?_
  obtain ⟨F, δ, E, h⟩ := h
  refine tL.goV E h fun ds vs F1 H1 u1 E1 w h1 => ?_
  obtain ⟨d, e, q⟩ := h1.okT
  exact hf F1 H1 vs ds d Q u1.fh w e q
theorem s_callTy {T : String} {g : List D → Option D} (h : CallS X c (.type T) os ty g) (hg : Gl X x) (hm : X.mg x = none) (hv : bootBuiltins x = some (.type T)) (ha : PA X (e :: es) (tL c os fs)) (hn : x ≠ "__name__") (hdb : (x == ("__debug__" : Str)) = false)
    (he : starEach (e :: es) X.env = (false, eval e X.env) :: starEach es X.env) (hpl : (backTo pos (starEach es X.env)).any (·.1) = false) :
    PE X (.Call (.Name x p) (e :: es) [] pos) (tV c ty fun δ => bndL (fs δ) fun ds => okO (g ds)) := by
  obtain ⟨r, hr, hf⟩ := h
  refine PE.imp (pe_callTy hr hg hm hv ha hn hdb he hpl) fun σ H Q h => ?_
  obtain ⟨F, δ, E, h⟩ := h
  refine tL.goV E h fun ds vs F1 H1 u1 E1 w h1 => ?_
  obtain ⟨d, e, q⟩ := h1.okT
  exact hf F1 H1 vs ds d Q u1.fh w e q
theorem view1 {K : PySem.W.Frag} {ds : List D} {vs : List V} (h : ViewL K F H [o] ds vs) : ∃ d v A, ds = [d] ∧ vs = [v] ∧ Own K F H o d v A := by
  cases ds with
  | nil => simp [ViewL] at h
  | cons d r =>
    simp only [ViewL] at h
    obtain ⟨v, rv, rfl, ⟨A, h1⟩, h2⟩ := h
    cases r with
    | nil => simp only [ViewL] at h2; subst h2; exact ⟨d, v, A, rfl, rfl, h1⟩
    | cons _ _ => simp [ViewL] at h2
theorem view2 {K : PySem.W.Frag} {ds : List D} {vs : List V} (h : ViewL K F H [oa, ob] ds vs) : ∃ d d' v v' A B, ds = [d, d'] ∧ vs = [v, v'] ∧ Own K F H oa d v A ∧ Own K F H ob d' v' B := by
  cases ds with
  | nil => simp [ViewL] at h
  | cons d r =>
    simp only [ViewL] at h
    obtain ⟨v, rv, rfl, ⟨A, h1⟩, h2⟩ := h
    obtain ⟨d', v', B, rfl, rfl, h3⟩ := view1 h2
    exact ⟨d, d', v, v', A, B, rfl, rfl, h1, h3⟩
def lenD : List D → Option D
  | [.lst ds] => some (.int ds.length)
  | [.tup ds] => some (.int ds.length)
  | [.dic ks ds] => some (.int ks.length)
  | [.lck ns] => some (.int ns.length)
  | [.str z] => if z.length ≤ sizeLine then some (.int z.length) else none
  | _ => none
theorem b_len (hK : X.K = c.K) : CallS X c (.builtin "len") [.bw] (.vw .fz) lenD := by
  refine ⟨_, call_len.or call_lenD, fun F H vs ds d Q s w e q => ?_⟩
  obtain ⟨d0, v, A, rfl, rfl, hx⟩ := view1 w
  have fin : ∀ n : Nat, d = .int n → Q (.int n) H := fun n z => by
    subst z; exact q _ F H (Up.refl s) ⟨[], Own.of_is (by simp only [Is])⟩
  cases d0 with
  | lst ds =>
    cases e
    obtain ⟨p, vs, rfl, hp, hi⟩ := hx.lstF rfl s
    exact .inl ⟨_, ds.length, rfl, .inl ⟨vs, SqL.of hp, hi.length.symm⟩, fin _ rfl⟩
  | tup ds =>
    cases e
    obtain ⟨p, vs, rfl, hp, hi, _⟩ := hx.tup s
    exact .inl ⟨_, ds.length, rfl, .inr ⟨vs, SqT.of hp, hi.length.symm⟩, fin _ rfl⟩
  | dic ks ds =>
    cases e
    obtain ⟨p, kvs, rfl, hp, rfl, _, _⟩ := hx.dict s
    exact .inr ⟨p, kvs, rfl, hp, fin _ (by simp)⟩
  | lck ns =>
    cases e
    have q1 := hx.scal rfl
    simp only [Is] at q1
    obtain ⟨p, rfl, hp⟩ := q1
    exact .inl ⟨_, ns.length, rfl, .inl ⟨_, hK ▸ s.seq hp, by simp⟩, fin _ rfl⟩
  | str z =>
    simp only [lenD] at e
    by_cases g : z.length ≤ sizeLine
    · rw [if_pos g] at e; cases e
      exact .inl ⟨_, z.length, rfl, by rw [hx.strV.1]; exact ⟨g, rfl⟩, fin _ rfl⟩
    · rw [if_neg g] at e; cases e
  | _ => simp [lenD] at e
/-- tuple(x), list(x) -/
def tupD : List D → Option D
  | [.lst ds] => some (.tup ds)
  | [.tup ds] => some (.tup ds)
  | _ => none
theorem b_tuple : CallS X c (.type "tuple") [.bw] (.vw .fz) tupD := by
  refine ⟨_, call_tuple_of, fun F H vs ds d Q s w e q => ?_⟩
  obtain ⟨d0, v, A, rfl, rfl, hx⟩ := view1 w
  cases d0 with
  | lst ds =>
    cases e
    obtain ⟨p, vs, rfl, hp, hi⟩ := hx.lstF rfl s
    refine ⟨p, vs, rfl, .inl ⟨SqL.of hp, fun l hl => q _ _ _ (Up.newF s hl) ⟨[], Own.of_is ?_⟩⟩⟩
    simp only [Is]
    exact ⟨l, _, rfl, upd_same, hi.mono (Up.newF (o := .tup vs) s hl).ff⟩
  | tup ds =>
    cases e
    obtain ⟨p, vs, rfl, hp, hi, _⟩ := hx.tup s
    exact ⟨p, vs, rfl, .inr ⟨SqT.of hp, q _ F H (Up.refl s) ⟨[], Own.of_is hx.tupIs⟩⟩⟩
  | _ => simp [tupD] at e
def lstD : List D → Option D
  | [.lst ds] => some (.lst ds)
  | [.tup ds] => some (.lst ds)
  | _ => none
theorem fresh_lst {l : Addr} {vs : List V} {ds : List D} (s : Same F H) (hl : H l = none) (hi : IsL c.K F ds vs) : Post c.K H F (upd H l (.lst vs)) (.fr (.lst .fz)) (.lst ds) (.ref l) := by
  refine ⟨[l], ?_, by simp, fun a ha => ?_⟩
  · simp only [Own]
    exact ⟨l, vs, [], rfl, upd_same, OwnL.of_fz hi, rfl⟩
  · have e : a = l := by simpa using ha
    subst e
    refine ⟨hl, ?_⟩
    cases q : F a with
    | none => rfl
    | some u => rw [s _ _ q] at hl; cases hl
theorem b_list : CallS X c (.type "list") [.bw] (.fr (.lst .fz)) lstD := by
  refine ⟨_, call_list_of, fun F H vs ds d Q s w e q => ?_⟩
  obtain ⟨d0, v, A, rfl, rfl, hx⟩ := view1 w
  cases d0 with
  | lst ds =>
    cases e
    obtain ⟨p, vs, rfl, hp, hi⟩ := hx.lstF rfl s
    exact ⟨p, vs, rfl, .inl (SqL.of hp), fun l hl => q _ F _ (Up.new s hl) (fresh_lst s hl hi)⟩
  | tup ds =>
    cases e
    obtain ⟨p, vs, rfl, hp, hi, _⟩ := hx.tup s
    exact ⟨p, vs, rfl, .inr (SqT.of hp), fun l hl => q _ F _ (Up.new s hl) (fresh_lst s hl hi)⟩
  | _ => simp [lstD] at e
def intD : List D → Option D
  | [.int i] => some (.int i)
  | [.bl b] => some (.int (if b then 1 else 0))
  | _ => none
theorem b_int : CallS X c (.type "int") [.bw] (.vw .fz) intD := by
  refine ⟨_, call_int1, fun F H vs ds d Q s w e q => ?_⟩
  obtain ⟨d0, v, A, rfl, rfl, hx⟩ := view1 w
  cases d0 with
  | int i =>
    cases e
    exact .inl ⟨i, by rw [hx.int], q _ F H (Up.refl s) ⟨[], Own.of_is (by simp only [Is])⟩⟩
  | bl b =>
    cases e
    have q1 := hx.scal rfl
    simp only [Is] at q1
    exact .inr ⟨b, by rw [q1], q _ F H (Up.refl s) ⟨[], Own.of_is (by simp only [Is])⟩⟩
  | _ => simp [intD] at e
def absD : List D → Option D
  | [.int i] => some (.int (if i < 0 then -i else i))
  | _ => none
theorem b_abs : CallS X c (.builtin "abs") [.bw] (.vw .fz) absD := by
  refine ⟨_, call_abs, fun F H vs ds d Q s w e q => ?_⟩
  obtain ⟨d0, v, A, rfl, rfl, hx⟩ := view1 w
  cases d0 with
  | int i =>
    cases e
    exact ⟨i, by rw [hx.int], q _ F H (Up.refl s) ⟨[], Own.of_is (by simp only [Is])⟩⟩
  | _ => simp [absD] at e
/-- isinstance(x, T), T a built-in class -/
inductive Tn where
  | tuple | list | bool | int | str
def Tn.nm : Tn → String
  | .tuple => "tuple" | .list => "list" | .bool => "bool" | .int => "int" | .str => "str"
def Tn.has : Tn → D → Option Bool
  | .tuple, .tup _ => some true
  | .list, .lst _ => some true
  | .bool, .bl _ => some true
  | .int, .int _ => some true
  | .int, .bl _ => some true
  | .str, .str _ => some true
  | _, .ins _ _ => none
  | _, .lck _ => none
  | _, .cl _ => none
  | _, .xv => none
  | _, _ => some false
def tyNm : D → String
  | .non => "NoneType" | .bl _ => "bool" | .int _ => "int" | .str _ => "str" | .tup _ => "tuple" | .lst _ => "list" | .dic _ _ => "dict" | .ins _ _ => "?" | .lck _ => "list" | .cl _ => "?" | .xv => "?"
theorem tyx_of {K : PySem.W.Frag} {d : D} {v : V} {A : List Addr} {k : Bool} {t : Tn} (s : Same F H) (h : Own K F H .bw d v A) (ht : t.has d = some k) : TyX K H v (.type (tyNm d)) := by
  cases d with
  | non => have q := h.scal rfl; simp only [Is] at q; subst q; exact .base .non
  | bl b => have q := h.scal rfl; simp only [Is] at q; subst q; exact .base (.bl b)
  | int i => rw [h.int]; exact .base (.int i)
  | str x => rw [h.strV.1]; exact .base (.str x)
  | tup ds => obtain ⟨p, vs, rfl, hp, _, _⟩ := h.tup s; exact .base (.tup hp)
  | lst ds => obtain ⟨p, vs, rfl, hp, _⟩ := h.lstF rfl s; exact .base (.lst hp)
  | dic ks ds => obtain ⟨p, vs, rfl, hp, _⟩ := h.dict s; exact .base (.dK hp)
  | ins c ds => cases t <;> simp [Tn.has] at ht
  | lck ns => cases t <;> simp [Tn.has] at ht
  | cl _ => cases t <;> simp [Tn.has] at ht
  | xv => cases t <;> simp [Tn.has] at ht
theorem kit_has {K : PySem.W.Frag} {d : D} {k : Bool} {t : Tn} (ht : t.has d = some k) : PySem.W.kitOne K (.type (tyNm d)) (.type t.nm) = some k := by
  cases t <;> cases d <;> simp [Tn.has] at ht <;> subst ht <;> exact kit_ty (by simp only [tyNm, Tn.nm]; decide +kernel)
theorem s_isi {t : Tn} {xi xt : Str} {pi pt : Pos} (hK : X.K = c.K) (ha : PE X a (tV c ta fa)) (ca : coe ta .bw = true) (hg : Gl X xi) (hm : X.mg xi = none) (hv : bootBuiltins xi = some (.builtin "isinstance"))
    (hgt : Gl X xt) (hmt : X.mg xt = none) (hvt : bootBuiltins xt = some (.type t.nm)) (hn : xi ≠ "__name__") (hdb : (xi == ("__debug__" : Str)) = false) (hn2 : xt ≠ "__name__") (hdb2 : (xt == ("__debug__" : Str)) = false)
    (hs : starEach [a, .Name xt pt] X.env = (false, eval a X.env) :: starEach [.Name xt pt] X.env) :
    PE X (.Call (.Name xi pi) [a, .Name xt pt] [] pos) (tV c (.vw .fz) fun δ => bnd (fa δ) fun d => okB (t.has d)) := by
  refine PE.imp (pe_callB call_isi hg hm hv (pa_cons ha (pa_cons (pe_bltn hgt hmt hvt (v := .ty t.nm) rfl hn2 hdb2) pa_nil) hs) hn hdb hs (by rfl)) fun σ H Q h => ?_
  obtain ⟨F, δ, E, h⟩ := h
  refine tV.goV ca E h fun d v F1 H1 u1 E1 hx h1 => ?_
  obtain ⟨A, hx⟩ := hx
  obtain ⟨k, e, q⟩ := h1.okB
  exact ⟨v, .ty t.nm, .type (tyNm d), .type t.nm, k, rfl, .ty _, hK ▸ tyx_of u1.fh hx e, kit_has e, q F1 H1 (Up.refl u1.fh)⟩
/-! ### fields of instances that are only read -/
def fldIx (f : Str) : List Str → Option Nat
  | [] => none
  | g :: r => if g = f then some 0 else (fldIx f r).map (· + 1)
def fldD (f : Str) : D → Option D
  | .ins c ds => (fldIx f (clsT c).fields).bind fun i => ds[i]?
  | _ => none
/-- what is known of a class whose fields are read -/
def ClsOk (K : PySem.W.Frag) (i : Nat) : Prop := Cls K (clsA K i) ∧ ∀ f ∈ (clsT i).fields, NoAttr K (clsA K i) f
theorem fldIx_zip {f : Str} : ∀ {fs : List Str} {vs : List V} {i : Nat} {v : V}, fldIx f fs = some i → vs[i]? = some v → (fs.zip vs).lookup f = some v ∧ f ∈ fs
  | [], _, _, _, h, _ => by simp [fldIx] at h
  | g :: r, [], _, _, h, e => by simp at e
  | g :: r, w :: vs, i, v, h, e => by
    unfold fldIx at h
    by_cases hg : g = f
    · rw [if_pos hg] at h
      cases h
      simp at e
      subst e
      subst hg
      exact ⟨by simp [List.lookup_cons], by simp⟩
    · rw [if_neg hg] at h
      cases q : fldIx f r with
      | none => rw [q] at h; cases h
      | some j =>
        rw [q] at h
        cases h
        obtain ⟨h1, h2⟩ := fldIx_zip (vs := vs) q (by simpa using e)
        refine ⟨?_, by simp [h2]⟩
        rw [List.zip_cons_cons, List.lookup_cons]
        have : (f == g) = false := by
          rw [beq_eq_false_iff_ne]
          exact fun z => hg z.symm
        rw [this]
        exact h1
theorem s_fld {f : Str} (hK : X.K = c.K) (hc : ∀ i, f ∈ (clsT i).fields → ClsOk c.K i) (ha : PE X a (tV c ta fa)) (ca : coe ta .fz = true) (hb : attributeBase a f X.env (eval a X.env) = eval a X.env) :
    PE X (.Attribute a f pos) (tV c (.vw .fz) fun δ => bnd (fa δ) fun d => okO (fldD f d)) := by
  refine PE.imp (pe_fld ha hb) fun σ H Q h => ?_
  obtain ⟨F, δ, E, h⟩ := h
  refine tV.goV ca E h fun d v F1 H1 u1 E1 hx h1 => ?_
  obtain ⟨A, hx⟩ := hx
  obtain ⟨r, e, q⟩ := h1.okO
  cases d with
  | ins i ds =>
    simp only [fldD] at e
    cases e1 : fldIx f (clsT i).fields with
    | none => rw [e1] at e; cases e
    | some j =>
      rw [e1] at e
      have hi := hx.is
      simp only [Is] at hi
      obtain ⟨p, dx, vs, rfl, hp, hl, hd⟩ := hi
      obtain ⟨w, hw, hiw⟩ := hd.get (show ds[j]? = some r from e)
      obtain ⟨h2, h3⟩ := fldIx_zip e1 hw
      obtain ⟨k1, k2⟩ := hc i h3
      exact ⟨p, clsA c.K i, dx, _, w, rfl, u1.fh _ _ hp, hK ▸ k1, hK ▸ k2 f h3, h2, q w F1 H1 (Up.refl u1.fh) hiw⟩
  | _ => simp [fldD] at e
/-! ### own defs, called -/
structure Sig where
  args : List OT
  ret : Ty
abbrev Fn := List D → Option R
def GF (K : PySem.W.Frag) (F H : Hp) (ty : Ty) (Q : VK) (E : XK) : Option R → Prop
  | some (.ok d) => ∀ v F' H', Up F H F' H' → Post K H F' H' ty d v → Q v H'
  | some (.ex x) => ∀ cls u dx F' H', RelV cls u → Up F H F' H' → XRep K F' H' x cls dx → E u dx H'
  | none => False
/-- the promise of a def that changes nothing: worth φ of its arguments -/
def spE (K : PySem.W.Frag) (sg : Sig) (φ : Fn) : Sp := fun vs H Q E => ∃ F ds, Same F H ∧ ViewL K F H sg.args ds vs ∧ GF K F H sg.ret Q E (φ ds)
theorem ViewL.len {K : PySem.W.Frag} : ∀ {os : List OT} {ds : List D} {vs : List V}, ViewL K F H os ds vs → vs.length = os.length
  | [], [], _, h => by simp only [ViewL] at h; rw [h]; rfl
  | o :: os, d :: ds, _, h => by
    simp only [ViewL] at h
    obtain ⟨v, r, rfl, _, h2⟩ := h
    rw [List.length_cons, List.length_cons, ViewL.len h2]
  | [], _ :: _, _, h => by simp [ViewL] at h
  | _ :: _, [], _, h => by simp [ViewL] at h
/-- a def that may be called by its name -/
structure Callee (X : Cx) (x : Str) (k : Nat) (sg : Sig) (φ : Fn) : Prop where
  ex : ∃ (f : Addr) (fd : FuncData) (ps : List Str), FnOk X.prog X.w X.K X.mg X.base (L2.CX X.prog X.w) k f fd ps (spE X.K sg φ) ∧ X.mg x = some (.ref f) ∧ PySem.W.keepIn X.K (.ref f) = true ∧ Binds X.K fd ps []
theorem s_call {k : Nat} {sg : Sig} {φ : Fn} (C : Callee X x k sg φ) (hK : X.K = c.K) (hr : Room k X.A) (hg : Gl X x) (tk : Takes X c.W) (ha : PA X (e :: es) (tL c sg.args fs)) (hdb : (x == ("__debug__" : Str)) = false)
    (he : starEach (e :: es) X.env = (false, eval e X.env) :: starEach es X.env) (hpl : (backTo pos (starEach es X.env)).any (·.1) = false) :
    PE X (.Call (.Name x p) (e :: es) [] pos) (tV c sg.ret fun δ => bndL (fs δ) φ) := by
  obtain ⟨f, fd, ps, F, hm, hk, hb⟩ := C.ex
  refine PE.imp (pe_callS F hr hg hm hk hb (fun σ => passAt tk σ) ha hdb he hpl) fun σ H Q h => ?_
  obtain ⟨F, δ, E, h⟩ := h
  refine tL.goV E h fun ds vs F1 H1 u1 E1 w h1 => ?_
  refine ⟨F1, ds, u1.fh, hK ▸ w, ?_⟩
  cases r : φ ds with
  | none => rw [r] at h1; exact h1
  | some r' =>
    rw [r] at h1
    cases r' with
    | ok d => exact hK ▸ h1
    | ex x => exact fun cls u dx F' H' rv up xr => h1 cls u dx F' H' rv up (hK ▸ xr)
end Ev

set_option maxHeartbeats 4000000
/-! Ev, part I: what is walked, targets, comprehensions. -/
namespace Ev
open PySem PySem.Spec PyProof.Rows L2
variable {X : Cx} {c : Cp} {F G H F' G' H' : Hp} {σ : L2.St} {δ : Env} {a b e tg : Expr} {es : List Expr} {pos p : Pos} {x : Str} {ta tb tc ty : Ty} {oa ob oc o : OT} {os : List OT} {fa fb fc : Env → Option R} {fs : Env → Option RL}
/-! ### items -/
/-- J yields the items ds, wherever F1 and G1 still stand -/
def WalkOk (K : PySem.W.Frag) (J : It) (F1 G1 : Hp) (ds : List D) : Prop := ∀ F H, Same F1 F → Same F H → Same G1 H → ∀ i : Nat,
  (∀ d, ds[i]? = some d → J.go i H ∧ ∀ x H', J.yld i H x H' → ∃ F', Up F H F' H' ∧ Is K F' d x) ∧ (ds.length ≤ i → J.stop i H)
/-- what keeps the walked thing: it is frozen; it stood at the entry; it stands now -/
inductive Gm where
  | fz | en | nw
def Gm.hp (c : Cp) (H : Hp) : Gm → Hp
  | .fz => fun _ => none
  | .en => c.G
  | .nw => H
def GI (c : Cp) (gm : Gm) (F H : Hp) (σ : L2.St) (R : It → Hp → Prop) : Option RL → Prop
  | some (.ok ds) => ∀ J F' H', Up F H F' H' → WalkOk c.K J F' (gm.hp c H') ds → R J H'
  | some (.ex x) => Bad c F H σ x
  | none => False
def tI (c : Cp) (gm : Gm) (f : Env → Option RL) : TI := fun σ H R => ∃ F δ, c.E F H σ δ ∧ GI c gm F H σ R (f δ)
theorem PI.imp {iter : Expr} {t t' : TI} (h : PI X tg iter t) (i : ∀ σ H Q, t' σ H Q → t σ H Q) : PI X tg iter t' := ⟨fun pins s σ H Q I q => h.run pins s σ H Q I (i σ H Q q)⟩
theorem PI.or {iter : Expr} {t t' : TI} (h : PI X tg iter t) (h' : PI X tg iter t') : PI X tg iter (fun σ H Q => t σ H Q ∨ t' σ H Q) := ⟨fun pins s σ H Q I q => by
  rcases q with q | q
  · exact h.run pins s σ H Q I q
  · exact h'.run pins s σ H Q I q⟩
def itemsD : D → Option (List D)
  | .lst ds => some ds
  | .tup ds => some ds
  | .str z => some (z.cps.toList.map fun q => .str ⟨#[q]⟩)
  | .lck ns => some (ns.map D.int)
  | _ => none
def bndI (r : Option R) (k : D → Option RL) : Option RL := match r with
  | some (.ok d) => k d
  | some (.ex x) => some (.ex x)
  | none => none
def okL : Option (List D) → Option RL
  | some ds => some (.ok ds)
  | none => none
theorem walk_list {K : PySem.W.Frag} {p : Addr} {vs : List V} {ds : List D} {F1 G1 : Hp} (hp : ∀ F H, Same F1 F → Same F H → Same G1 H → SqL K H p vs) (hi : IsL K F1 ds vs) : WalkOk K (Itl K p) F1 G1 ds := fun F H s1 s2 s3 i => by
  refine ⟨fun d hd => ?_, fun hl => ⟨vs, hp F H s1 s2 s3, by rw [hi.length]; exact hl⟩⟩
  obtain ⟨v, hv, hiv⟩ := hi.get hd
  refine ⟨⟨vs, v, hp F H s1 s2 s3, hv⟩, fun x H' y => ?_⟩
  obtain ⟨rfl, y⟩ := y
  have := y vs (hp F _ s1 s2 s3)
  rw [hv] at this
  cases this
  exact ⟨F, Up.refl s2, hiv.mono s1⟩
theorem walk_tup {K : PySem.W.Frag} {p : Addr} {vs : List V} {ds : List D} {F1 G1 : Hp} (hp : ∀ F H, Same F1 F → Same F H → Same G1 H → SqT K H p vs) (hi : IsL K F1 ds vs) : WalkOk K (Itt K p) F1 G1 ds := fun F H s1 s2 s3 i => by
  refine ⟨fun d hd => ?_, fun hl => ⟨vs, hp F H s1 s2 s3, by rw [hi.length]; exact hl⟩⟩
  obtain ⟨v, hv, hiv⟩ := hi.get hd
  refine ⟨⟨vs, v, hp F H s1 s2 s3, hv⟩, fun x H' y => ?_⟩
  obtain ⟨rfl, y⟩ := y
  have := y vs (hp F _ s1 s2 s3)
  rw [hv] at this
  cases this
  exact ⟨F, Up.refl s2, hiv.mono s1⟩
theorem walk_str {K : PySem.W.Frag} {z : Str} {F1 G1 : Hp} (ok : PyData.strOk z = true) : WalkOk K (Its z) F1 G1 (z.cps.toList.map fun q => .str ⟨#[q]⟩) := fun F H s1 s2 s3 i => by
  refine ⟨fun d hd => ?_, fun hl => ?_⟩
  · rw [List.getElem?_map] at hd
    cases e : z.cps.toList[i]? with
    | none => rw [e] at hd; cases hd
    | some q =>
      rw [e] at hd
      cases hd
      have hi : i < z.cps.size := by
        have := (List.getElem?_eq_some_iff.mp e).1
        simpa using this
      refine ⟨hi, fun x H' y => ?_⟩
      obtain ⟨rfl, r, hr, rfl⟩ := y
      have e2 : r = q := by
        rw [Array.getElem?_toList] at e
        rw [e] at hr
        exact (Option.some.inj hr).symm
      subst e2
      refine ⟨F, Up.refl s2, Is.str ?_⟩
      rw [strOk_iff] at ok ⊢
      intro t ht
      have : t = r := by simpa using ht
      subst this
      exact ok _ (List.mem_of_getElem? e)
  · show z.cps.size ≤ i
    simpa using hl
theorem isL_ints {K : PySem.W.Frag} : ∀ ns : List Int, IsL K F (ns.map D.int) (ns.map V.int)
  | [] => by simp [IsL]
  | n :: ns => ⟨.int n, ns.map V.int, rfl, by simp only [Is], isL_ints ns⟩
/-- a list, a tuple, a text walked; the type says what keeps it -/
def gmOf : Ty → Gm
  | .vw .fz => .fz
  | .fr _ => .fz
  | _ => .nw
theorem i_val (hK : X.K = c.K) (ha : PE X e (tV c (.vw o) fa)) (ho : elO o = true) : PI X tg e (tI c (gmOf (.vw o)) fun δ => bndI (fa δ) fun d => okL (itemsD d)) := by
  refine PI.imp (PI.or (pi_list ha) (PI.or (pi_tup ha) (pi_str ha))) fun σ H R h => ?_
  obtain ⟨F, δ, E, h⟩ := h
  change GI c (gmOf (.vw o)) F H σ R (bndI (fa δ) _) at h
  cases e1 : fa δ with
  | none => rw [e1] at h; exact h.elim
  | some r =>
    cases r with
    | ex x => rw [e1] at h; exact .inl ⟨F, δ, E, by rw [e1]; exact h⟩
    | ok d =>
      rw [e1] at h
      have start : ∀ {Q1 : VK}, (∀ v F1 H1, Up F H F1 H1 → (∃ A, Own c.K F1 H1 o d v A) → Q1 v H1) → tV c (.vw o) fa σ H Q1 := fun k => ⟨F, δ, E, by rw [e1]; exact fun v F1 H1 u p => k v F1 H1 u p⟩
      cases d with
      | lst ds =>
        refine .inl (start fun v F1 H1 u ⟨A, hx⟩ => ?_)
        obtain ⟨p, vs, rfl, hp, hi⟩ := hx.lstF ho u.fh
        refine ⟨p, rfl, ⟨vs, SqL.of hp⟩, h _ F1 H1 u ?_⟩
        rw [← hK]
        refine walk_list (fun F2 H2 s1 s2 s3 => ?_) (by rw [hK]; exact hi)
        cases o with
        | fz =>
          have q := hx.is
          simp only [Is] at q
          obtain ⟨p', vs', e2, hp', _⟩ := q
          cases e2
          have e3 := u.fh _ _ hp'
          rw [hp] at e3; cases e3
          exact SqL.of (s2 _ _ (s1 _ _ hp'))
        | bw => exact SqL.of (s3 _ _ hp)
        | lst o' => exact SqL.of (s3 _ _ hp)
        | dic => simp [Own] at hx
        | ins os => cases ho
      | tup ds =>
        refine .inr (.inl (start fun v F1 H1 u ⟨A, hx⟩ => ?_))
        have q : Is c.K F1 (.tup ds) v := hx.scal rfl
        simp only [Is] at q
        obtain ⟨p, vs, rfl, hp, hi⟩ := q
        refine ⟨p, rfl, ⟨vs, SqT.of (u.fh _ _ hp)⟩, h _ F1 H1 u ?_⟩
        rw [← hK]
        exact walk_tup (fun F2 H2 s1 s2 s3 => SqT.of (s2 _ _ (s1 _ _ hp))) (by rw [hK]; exact hi)
      | str z =>
        refine .inr (.inr (start fun v F1 H1 u ⟨A, hx⟩ => ?_))
        have q := hx.scal rfl
        simp only [Is] at q
        exact ⟨z, q.1, h _ F1 H1 u (walk_str q.2)⟩
      | lck ns =>
        refine .inl (start fun v F1 H1 u ⟨A, hx⟩ => ?_)
        have q := hx.scal rfl
        simp only [Is] at q
        obtain ⟨p, rfl, hp⟩ := q
        refine ⟨p, rfl, ⟨_, hK ▸ u.fh.seq hp⟩, h _ F1 H1 u ?_⟩
        rw [← hK]
        exact walk_list (vs := ns.map V.int) (fun F2 H2 s1 s2 s3 => s2.seq (s1.seq (hK ▸ hp))) (isL_ints ns)
      | _ => exact h.elim
/-- range(a), range(a, b) -/
def rngD (lo hi : Int) : List D := (List.range (hi - lo).toNat).map fun i : Nat => D.int (lo + i)
theorem walk_rng {K : PySem.W.Frag} {lo hi : Int} {F1 G1 : Hp} : WalkOk K (Itr lo (hi - lo).toNat) F1 G1 (rngD lo hi) := fun F H s1 s2 s3 i => by
  refine ⟨fun d hd => ?_, fun hl => ?_⟩
  · unfold rngD at hd
    rw [List.getElem?_map] at hd
    cases e : (List.range (hi - lo).toNat)[i]? with
    | none => rw [e] at hd; cases hd
    | some q =>
      rw [e] at hd
      cases hd
      obtain ⟨h1, h2⟩ := List.getElem?_eq_some_iff.mp e
      rw [List.getElem_range] at h2
      subst h2
      refine ⟨(by rw [List.length_range] at h1; exact h1 : i < (hi - lo).toNat), fun x H' y => ?_⟩
      obtain ⟨rfl, rfl⟩ := y
      exact ⟨F, Up.refl s2, by simp only [Is]⟩
  · show (hi - lo).toNat ≤ i
    unfold rngD at hl
    simpa using hl
def rngOk (lo hi : Int) : Option (List D) := if decide (-1000000 ≤ lo) && decide (lo ≤ 1000000) && decide (-1000000 ≤ hi) && decide (hi ≤ 1000000) then some (rngD lo hi) else none
theorem rngOk_some {lo hi : Int} {ds : List D} (h : rngOk lo hi = some ds) : ds = rngD lo hi ∧ -1000000 ≤ lo ∧ lo ≤ 1000000 ∧ -1000000 ≤ hi ∧ hi ≤ 1000000 := by
  unfold rngOk at h
  by_cases g : (decide (-1000000 ≤ lo) && decide (lo ≤ 1000000) && decide (-1000000 ≤ hi) && decide (hi ≤ 1000000)) = true
  · rw [if_pos g] at h
    cases h
    simp only [Bool.and_eq_true, decide_eq_true_eq] at g
    exact ⟨rfl, g.1.1.1, g.1.1.2, g.1.2, g.2⟩
  · rw [if_neg g] at h; cases h
def rngF1 (d : D) : Option (List D) := match d with
  | .int j => rngOk 0 j
  | _ => none
theorem tV.goI {ta : Ty} {oa : OT} {fa : Env → Option R} {Q1 : VK} {gm : Gm} {Rr : It → Hp → Prop} {k : D → Option RL} (co : coe ta oa = true) (E : c.E F H σ δ) (h : GI c gm F H σ Rr (bndI (fa δ) k))
    (hk : ∀ d v F1 H1, Up F H F1 H1 → c.E F1 H1 σ δ → (∃ A, Own c.K F1 H1 oa d v A) → GI c gm F1 H1 σ Rr (k d) → Q1 v H1) : tV c ta fa σ H Q1 := by
  refine ⟨F, δ, E, ?_⟩
  cases e : fa δ with
  | none => rw [e] at h; exact h
  | some r =>
    rw [e] at h
    cases r with
    | ex x => exact h
    | ok d =>
      intro v F1 H1 u p
      obtain ⟨F2, u2, s2, A, o⟩ := p.coe u co
      refine hk d v F2 H1 u2 (E.up u2) ⟨A, o⟩ ?_
      change GI c gm F H σ Rr (k d) at h
      cases e2 : k d with
      | none => rw [e2] at h; exact h
      | some r =>
        rw [e2] at h
        cases r with
        | ex x => exact Bad.up h u2
        | ok ds => exact fun J F' H' u3 w => h J F' H' (u2.trans u3) w
theorem i_rng1 {pr : Pos} (ha : PE X a (tV c ta fa)) (ca : coe ta .bw = true) (hg : Gl X "range") (hm : X.mg "range" = none) (hs : starEach [a] X.env = [(false, eval a X.env)]) :
    PI X tg (.Call (.Name "range" pr) [a] [] pos) (tI c .fz fun δ => bndI (fa δ) fun d => okL (rngF1 d)) := by
  refine PI.imp (pi_range1 hg hm (pa_cons ha pa_nil hs) hs) fun σ H R h => ?_
  obtain ⟨F, δ, E, h⟩ := h
  refine tV.goI ca E h fun d v F1 H1 u1 E1 hx h1 => ?_
  obtain ⟨A, hx⟩ := hx
  cases d with
  | int j =>
    cases e : rngOk 0 j with
    | none => simp only [rngF1, e] at h1; exact h1.elim
    | some ds =>
      simp only [rngF1, e] at h1
      obtain ⟨rfl, a1, a2, a3, a4⟩ := rngOk_some e
      refine ⟨j, by rw [hx.int], by omega, by omega, ?_⟩
      have w := h1 (Itr 0 (j - 0).toNat) F1 H1 (Up.refl u1.fh) walk_rng
      rw [show (j - 0).toNat = j.toNat by rw [Int.sub_zero]] at w
      exact w
  | _ => exact h1.elim
def rngF2 (d d' : D) : Option (List D) := match d, d' with
  | .int i, .int j => rngOk i j
  | _, _ => none
theorem i_rng2 {pr : Pos} (ha : PE X a (tV c ta fa)) (hb : PE X b (tV c tb fb)) (ca : coe ta .bw = true) (cb : coe tb .bw = true) (hg : Gl X "range") (hm : X.mg "range" = none)
    (hs : starEach [a, b] X.env = [(false, eval a X.env), (false, eval b X.env)]) (hs2 : starEach [b] X.env = [(false, eval b X.env)]) :
    PI X tg (.Call (.Name "range" pr) [a, b] [] pos) (tI c .fz fun δ => bndI (fa δ) fun d => bndI (fb δ) fun d' => okL (rngF2 d d')) := by
  refine PI.imp (pi_range2 hg hm (pa_cons ha (pa_cons hb pa_nil hs2) (by rw [hs, hs2])) hs hs2) fun σ H R h => ?_
  obtain ⟨F, δ, E, h⟩ := h
  refine tV.goI ca E h fun d v F1 H1 u1 E1 hx h1 => ?_
  refine tV.goI cb E1 h1 fun d' v' F2 H2 u2 E2 hy h2 => ?_
  obtain ⟨A, hx⟩ := hx
  obtain ⟨B, hy⟩ := hy
  cases d with
  | int i =>
    cases d' with
    | int j =>
      cases e : rngOk i j with
      | none => simp only [rngF2, e] at h2; exact h2.elim
      | some ds =>
        simp only [rngF2, e] at h2
        obtain ⟨rfl, a1, a2, a3, a4⟩ := rngOk_some e
        exact ⟨i, j, by rw [hx.int, hy.int], ⟨by omega, by omega, by omega, by omega⟩, h2 _ F2 H2 (Up.refl u2.fh) walk_rng⟩
    | _ => exact h2.elim
  | _ => exact h2.elim
/-! ### targets -/
inductive Tg where
  | nm (i : Nat) | tp (ts : List Tg)
mutual
def bindT : Tg → D → Env → Option Env
  | .nm i, d, δ => some (δ.set i (some d))
  | .tp ts, .tup ds, δ => bindTs ts ds δ
  | .tp ts, .lst ds, δ => bindTs ts ds δ
  | .tp _, _, _ => none
def bindTs : List Tg → List D → Env → Option Env
  | [], [], δ => some δ
  | t :: ts, d :: ds, δ => (bindT t d δ).bind fun δ1 => bindTs ts ds δ1
  | _, _, _ => none
end
mutual
def tgSlots : Tg → List Nat
  | .nm i => [i]
  | .tp ts => tgSlotsL ts
def tgSlotsL : List Tg → List Nat
  | [] => []
  | t :: ts => tgSlots t ++ tgSlotsL ts
end
def Agree (vs : List Nat) (σ σ' : L2.St) : Prop := σ'.length = σ.length ∧ ∀ j, j ∉ vs → σ'[j]? = σ[j]?
theorem wipe_get {σ : L2.St} {j : Nat} : ∀ {vs : List Nat}, (wipe σ vs)[j]? = if j ∈ vs then (if j < σ.length then some none else none) else σ[j]?
  | [] => by simp [wipe]
  | v :: vs => by
    unfold wipe
    rw [List.getElem?_set, wipe_length, wipe_get (vs := vs)]
    by_cases h : v = j
    · subst h
      simp
    · rw [if_neg h]
      have : (j ∈ v :: vs) ↔ j ∈ vs := by
        simp only [List.mem_cons]
        exact ⟨fun z => z.resolve_left (fun e => h e.symm), .inr⟩
      simp only [this]
theorem Agree.wipe {vs ws : List Nat} {σ σ' : L2.St} (a : Agree vs σ σ') (h : ∀ j ∈ vs, j ∈ ws) : wipe σ' ws = wipe σ ws := by
  apply List.ext_getElem?
  intro j
  rw [wipe_get, wipe_get, a.1]
  by_cases hj : j ∈ ws
  · rw [if_pos hj, if_pos hj]
  · rw [if_neg hj, if_neg hj, a.2 j fun z => hj (h j z)]
def tG (c : Cp) (t : Tg) : TG := fun v σ H Q => ∃ F δ d δ', c.E F H σ δ ∧ Is c.K F d v ∧ bindT t d δ = some δ' ∧ ∀ σ', Agree (tgSlots t) σ σ' → c.E F H σ' δ' → Q σ' H
def tGs (c : Cp) (ts : List Tg) : TGs := fun vs σ H Q => ∃ F δ ds δ', c.E F H σ δ ∧ IsL c.K F ds vs ∧ bindTs ts ds δ = some δ' ∧ ∀ σ', Agree (tgSlotsL ts) σ σ' → c.E F H σ' δ' → Q σ' H
theorem PG.imp {t t' : TG} (h : PG X tg t) (i : ∀ v σ H Q, t' v σ H Q → t v σ H Q) : PG X tg t' := ⟨fun pins s σ H v u Q I r q => h.run pins s σ H v u Q I r (i v σ H Q q)⟩
theorem PGs.imp {t t' : TGs} (h : PGs X es t) (i : ∀ v σ H Q, t' v σ H Q → t v σ H Q) : PGs X es t' := ⟨fun pins s σ H v u Q I r q => h.run pins s σ H v u Q I r (i v σ H Q q)⟩
theorem g_nm {i : Nat} (hN : X.N.Nodup) (hi : X.N[i]? = some x) (hx : Loc X.env.scope x) (hf : X.fn x = true ∨ X.env.scope.names.lookup x = some .local) (hk : c.Ks[i]? = some (.ve .fz)) : PG X (.Name x pos) (tG c (.nm i)) := by
  refine PG.imp (pg_name hN hi hx hf) fun v σ H Q h => ?_
  obtain ⟨F, δ, d, δ', E, hd, e, q⟩ := h
  simp only [bindT] at e
  cases e
  refine q _ ⟨by rw [List.length_set], fun j hj => ?_⟩ (EnvOk.setVe E hk hd)
  rw [List.getElem?_set_ne]
  simp only [tgSlots, List.mem_singleton] at hj
  exact fun z => hj z.symm
theorem gs_nil : PGs X [] (tGs c []) := by
  refine PGs.imp pgs_nil fun vs σ H Q h => ?_
  obtain ⟨F, δ, ds, δ', E, hd, e, q⟩ := h
  cases ds with
  | nil =>
    simp only [bindTs] at e
    cases e
    simp only [IsL] at hd
    exact ⟨hd, q _ ⟨rfl, fun _ _ => rfl⟩ E⟩
  | cons _ _ => simp [bindTs] at e
theorem gs_cons {t : Tg} {ts : List Tg} (h1 : PG X e (tG c t)) (h2 : PGs X es (tGs c ts)) (hs : (assignEach (e :: es) X.env).map (·.2) = assign e X.env :: (assignEach es X.env).map (·.2)) : PGs X (e :: es) (tGs c (t :: ts)) := by
  refine PGs.imp (pgs_cons h1 h2 hs) fun vs σ H Q h => ?_
  obtain ⟨F, δ, ds, δ', E, hd, e, q⟩ := h
  cases ds with
  | nil => simp [bindTs] at e
  | cons d ds =>
    simp only [bindTs] at e
    cases e1 : bindT t d δ with
    | none => rw [e1] at e; cases e
    | some δ1 =>
      rw [e1] at e
      simp only [IsL] at hd
      obtain ⟨v, r, rfl, i1, i2⟩ := hd
      refine ⟨v, r, rfl, F, δ, d, δ1, E, i1, e1, fun σ1 a1 E1 => ⟨F, δ1, ds, δ', E1, i2, e, fun σ2 a2 E2 => q σ2 ⟨a2.1.trans a1.1, fun j hj => ?_⟩ E2⟩⟩
      simp only [tgSlotsL, List.mem_append, not_or] at hj
      rw [a2.2 j hj.2, a1.2 j hj.1]
theorem bindTs_len : ∀ {ts : List Tg} {ds : List D} {δ δ' : Env}, bindTs ts ds δ = some δ' → ds.length = ts.length
  | [], [], _, _, _ => rfl
  | t :: ts, d :: ds, δ, δ', h => by
    simp only [bindTs] at h
    cases e1 : bindT t d δ with
    | none => rw [e1] at h; cases h
    | some δ1 =>
      rw [e1] at h
      rw [List.length_cons, List.length_cons, bindTs_len (show bindTs ts ds δ1 = some δ' from h)]
  | [], _ :: _, _, _, h => by simp [bindTs] at h
  | _ :: _, [], _, _, h => by simp [bindTs] at h
theorem PG.or {t t' : TG} (h : PG X tg t) (h' : PG X tg t') : PG X tg (fun v σ H Q => t v σ H Q ∨ t' v σ H Q) := ⟨fun pins s σ H v u Q I r q => q.elim (h.run pins s σ H v u Q I r) (h'.run pins s σ H v u Q I r)⟩
theorem g_tp {k : Nat} {ts : List Tg} (hK : X.K = c.K) (hc : X.calm = true) (h : PGs X es (tGs c ts)) (hn : (assignEach es X.env).length = ts.length) (hst : (assignEach es X.env).findIdx? (·.1) = none) : PG X (.Tuple es k pos) (tG c (.tp ts)) := by
  refine PG.imp (PG.or (pg_tup hc h hn hst) (pg_unl hc h hn hst)) fun v σ H Q h => ?_
  obtain ⟨F, δ, d, δ', E, hd, e, q⟩ := h
  cases d with
  | tup ds =>
    simp only [bindT] at e
    simp only [Is] at hd
    obtain ⟨p, vs, rfl, hp, hi⟩ := hd
    exact .inl ⟨p, vs, rfl, SqT.of (E.fh _ _ hp), by rw [hi.length, bindTs_len e], F, δ, ds, δ', E, hi, e, q⟩
  | lst ds =>
    simp only [bindT] at e
    simp only [Is] at hd
    obtain ⟨p, vs, rfl, hp, hi⟩ := hd
    exact .inr ⟨p, vs, rfl, SqL.of (E.fh _ _ hp), by rw [hi.length, bindTs_len e], F, δ, ds, δ', E, hi, e, q⟩
  | _ => simp [bindT] at e
/-! ### comprehensions -/
def tstD (tst : Option (Env → Option R)) (δ : Env) : Option Bool := match tst with
  | none => some true
  | some f => match f δ with
    | some (.ok (.bl b)) => some b
    | _ => none
def eltD (elt : Env → Option R) (δ : Env) : Option D := match elt δ with
  | some (.ok e) => some e
  | _ => none
def lcGo (t : Tg) (tst : Option (Env → Option R)) (elt : Env → Option R) (δ : Env) : List D → Option (List D)
  | [] => some []
  | d :: ds => (bindT t d δ).bind fun δ1 => (tstD tst δ1).bind fun b =>
    if b then (eltD elt δ1).bind fun e => (lcGo t tst elt δ ds).map (e :: ·) else lcGo t tst elt δ ds
def unsetL (δ : Env) : List Nat → Env
  | [] => δ
  | v :: vs => (unsetL δ vs).set v none
theorem EnvOk.wipe {K : PySem.W.Frag} {Ks : List Kd} {F0 : Hp} (E : EnvOk K Ks F0 G F H σ δ) : ∀ vs : List Nat, EnvOk K Ks F0 G F H (L2.wipe σ vs) (unsetL δ vs)
  | [] => E
  | v :: vs => (EnvOk.wipe E vs).unsetS v none
def Cp.quiet (c : Cp) : Cp := { c with W := fun _ _ _ _ => False }
def tTo (c : Cp) : Option (Env → Option R) → TT
  | none => tYes
  | some f => tT c f
theorem drop_get {α : Type} {l : List α} {i : Nat} {x : α} (h : l[i]? = some x) : l.drop i = x :: l.drop (i + 1) := by
  obtain ⟨h1, h2⟩ := List.getElem?_eq_some_iff.mp h
  rw [List.drop_eq_getElem_cons h1, h2]
theorem bind_some {α β : Type} {r : Option α} {k : α → Option β} {y : β} (h : r.bind k = some y) : ∃ x, r = some x ∧ k x = some y := by
  cases r with
  | none => cases h
  | some x => exact ⟨x, rfl, h⟩
def lcD (t : Tg) (tst : Option (Env → Option R)) (elt : Env → Option R) (δ : Env) (ds : List D) : Option D :=
  if ds.length < sizeLine then (lcGo t tst elt δ ds).map D.lst else none
/-- the turns -/
theorem lc_turns {gm : Gm} {J : It} {ds es : List D} {t : Tg} {tst : Option (Env → Option R)} {elt : Env → Option R} {own : List Nat} {ety : Ty} {F1 H1 : Hp} {D0 : Addr} {Q : Hp → Prop} (E1 : c.E F1 H1 σ δ) (w : WalkOk c.K J F1 (gm.hp c H1) ds)
    (hD : H1 D0 = none) (hz : ds.length < sizeLine) (ce : coe ety .fz = true) (hw : ∀ j ∈ tgSlots t, j ∈ own) (hl : lcGo t tst elt (unsetL δ own) ds = some es)
    (hq : ∀ F H acc, Up F1 H1 F H → F D0 = none → H D0 = some (.lst acc) → IsL c.K F es acc → Q H) :
    ∃ W : Nat → Nat → Hp → Prop, (∃ m, W 0 m (upd H1 D0 (.lst []))) ∧ ∀ i m H, W i m H → (J.stop i H ∧ Q H) ∨ (J.go i H ∧ ∃ Nx : Hp → Prop, (∀ H', Nx H' → ∃ m', m' < m ∧ W (i + 1) m' H') ∧
      ∀ x H', J.yld i H x H' → tG c.quiet t x (L2.wipe σ own) H' fun σ2 H2 => L2.wipe σ2 own = L2.wipe σ own ∧ tTo c.quiet tst σ2 H2 fun b H3 =>
        if b = true then tV c.quiet ety elt σ2 H3 fun y H4 => ∃ acc, H4 D0 = some (.lst acc) ∧ acc.length < sizeLine ∧ Nx (upd H4 D0 (.lst (acc ++ [y]))) else Nx H3) := by
  have fD : F1 D0 = none := by
    cases q : F1 D0 with
    | none => rfl
    | some u => rw [E1.fh _ _ q] at hD; cases hD
  refine ⟨fun i m H => m = ds.length - i ∧ i ≤ ds.length ∧ ∃ F acc accD rest, Up F1 H1 F H ∧ F D0 = none ∧ H D0 = some (.lst acc) ∧ IsL c.K F accD acc ∧ accD.length ≤ i ∧ lcGo t tst elt (unsetL δ own) (ds.drop i) = some rest ∧ accD ++ rest = es,
    ⟨ds.length, by simp, Nat.zero_le _, F1, [], [], es, Up.new E1.fh hD, fD, upd_same, by simp [IsL], by simp, by simpa using hl, rfl⟩, ?_⟩
  rintro i m H ⟨rfl, hi, F, acc, accD, rest, u, f0, hacc, hia, hle, hgo, hes⟩
  have s3 : Same (gm.hp c H1) H := by
    cases gm with
    | fz => exact fun _ _ e => nomatch e
    | en => exact E1.gh.trans u.hh
    | nw => exact u.hh
  obtain ⟨w1, w2⟩ := w F H u.ff u.fh s3 i
  by_cases hlt : i < ds.length
  · have hd : ds[i]? = some ds[i] := List.getElem?_eq_getElem hlt
    obtain ⟨go, y1⟩ := w1 _ hd
    refine .inr ⟨go, fun H' => ((fun i m H => m = ds.length - i ∧ i ≤ ds.length ∧ ∃ F acc accD rest, Up F1 H1 F H ∧ F D0 = none ∧ H D0 = some (.lst acc) ∧ IsL c.K F accD acc ∧ accD.length ≤ i ∧ lcGo t tst elt (unsetL δ own) (ds.drop i) = some rest ∧ accD ++ rest = es) (i + 1) (ds.length - (i + 1)) H' : Prop), fun H' n => ⟨_, by omega, n⟩, fun x H' y => ?_⟩
    obtain ⟨F', u', hx⟩ := y1 x H' y
    rw [drop_get hd] at hgo
    obtain ⟨δ1, e1, hgo⟩ := bind_some hgo
    obtain ⟨b, e2, hgo⟩ := bind_some hgo
    have E0 : c.quiet.E F' H' (L2.wipe σ own) (unsetL δ own) := (EnvOk.wipe E1 own).up (u.trans u')
    have hh0 : H D0 ≠ none := by rw [hacc]; simp
    refine ⟨F', unsetL δ own, ds[i], δ1, E0, hx, e1, fun σ2 a2 E2 => ⟨a2.wipe hw |>.trans (by
      apply List.ext_getElem?
      intro j
      rw [wipe_get, wipe_get, wipe_length]
      by_cases hj : j ∈ own
      · rw [if_pos hj, if_pos hj]
      · rw [if_neg hj, if_neg hj]), ?_⟩⟩
    -- the test
    have goOn : ∀ F3 H3, Up F' H' F3 H3 → (if b = true then tV c.quiet ety elt σ2 H3 fun y H4 => ∃ acc, H4 D0 = some (.lst acc) ∧ acc.length < sizeLine ∧ ((fun i m H => m = ds.length - i ∧ i ≤ ds.length ∧ ∃ F acc accD rest, Up F1 H1 F H ∧ F D0 = none ∧ H D0 = some (.lst acc) ∧ IsL c.K F accD acc ∧ accD.length ≤ i ∧ lcGo t tst elt (unsetL δ own) (ds.drop i) = some rest ∧ accD ++ rest = es) (i + 1) (ds.length - (i + 1)) (upd H4 D0 (.lst (acc ++ [y]))) : Prop)
        else ((fun i m H => m = ds.length - i ∧ i ≤ ds.length ∧ ∃ F acc accD rest, Up F1 H1 F H ∧ F D0 = none ∧ H D0 = some (.lst acc) ∧ IsL c.K F accD acc ∧ accD.length ≤ i ∧ lcGo t tst elt (unsetL δ own) (ds.drop i) = some rest ∧ accD ++ rest = es) (i + 1) (ds.length - (i + 1)) H3 : Prop)) := fun F3 H3 u3 => by
      have u4 := (u.trans u').trans u3
      have f3 : F3 D0 = none := u3.fr _ (u'.fr _ f0 hh0) (Same.some u'.hh hh0)
      have h3 : H3 D0 = some (.lst acc) := u3.hh _ _ (u'.hh _ _ hacc)
      cases b with
      | false =>
        rw [if_neg (by decide)] at hgo
        rw [if_neg (by decide)]
        exact ⟨rfl, hlt, F3, acc, accD, rest, u4, f3, h3, (hia.mono u'.ff).mono u3.ff, by omega, hgo, hes⟩
      | true =>
        rw [if_pos rfl] at hgo
        rw [if_pos rfl]
        obtain ⟨e, e3, hgo⟩ := bind_some hgo
        cases e4 : lcGo t tst elt (unsetL δ own) (ds.drop (i + 1)) with
        | none => rw [e4] at hgo; cases hgo
        | some rest' =>
          rw [e4] at hgo
          cases hgo
          refine ⟨F3, δ1, E2.up u3, ?_⟩
          unfold eltD at e3
          cases e5 : elt δ1 with
          | none => rw [e5] at e3; cases e3
          | some r =>
            rw [e5] at e3
            cases r with
            | ex x => cases e3
            | ok e' =>
              cases e3
              intro y F4 H4 u5 p
              obtain ⟨F5, u6, s5, A, ow⟩ := Post.coe (c := c) p u5 ce
              have f5 : F5 D0 = none := u6.fr _ f3 (by rw [h3]; simp)
              refine ⟨acc, u6.hh _ _ h3, ?_, rfl, hlt, F5, acc ++ [y], accD ++ [e], rest', ?_, f5, upd_same, ?_, ?_, e4, by rw [List.append_assoc]; exact hes⟩
              · rw [hia.length]; omega
              · have u7 := u4.trans u6
                refine ⟨u7.ff, fun a o q => ?_, u7.fr, fun a o q => ?_⟩
                · rw [upd_ne (ne_of_none q hD)]; exact u7.hh a o q
                · rw [upd_ne (ne_of_none q f5)]; exact u7.fh a o q
              · exact (((hia.mono u'.ff).mono u3.ff).mono u6.ff).append ⟨y, [], rfl, ow.is, rfl⟩
              · rw [List.length_append, List.length_singleton]; omega
    cases tst with
    | none =>
      cases e2
      exact goOn F' H' (Up.refl u'.fh)
    | some f =>
      refine ⟨F', δ1, E2, ?_⟩
      simp only [tstD] at e2
      cases e5 : f δ1 with
      | none => rw [e5] at e2; cases e2
      | some r =>
        rw [e5] at e2
        cases r with
        | ex x => cases e2
        | ok d =>
          cases d with
          | bl b' =>
            cases e2
            exact fun F3 H3 u3 => goOn F3 H3 u3
          | _ => cases e2
  · have e : i = ds.length := by omega
    subst e
    rw [List.drop_length] at hgo
    cases hgo
    rw [List.append_nil] at hes
    subst hes
    exact .inl ⟨w2 (Nat.le_refl _), hq F H acc u f0 hacc hia⟩
/-- [elt for t in iter if tst] -/
theorem s_lc {elt tgE iter : Expr} {ifs : List Expr} {scope : Scope} {own : List (Str × Nat)} {gm : Gm} {t : Tg} {tst : Option (Env → Option R)} {fe : Env → Option R} {fi : Env → Option RL} {ety : Ty}
    (hc : X.calm = true) (hN : X.N.Nodup) (hi : PI X tgE iter (tI c gm fi)) (ok : BlkOk X.N X.env.scope scope own)
    (hg : ∀ (s : Shared) (H : Hp) (C : Addr) (cl : List (Str × Addr)) (fp : List Addr), PG (X.blk s H scope (compEnvC scope cl C X.env) fp) tgE (tG c.quiet t))
    (ht : ∀ (s : Shared) (H : Hp) (C : Addr) (cl : List (Str × Addr)) (fp : List Addr), PTs (X.blk s H scope (compEnvC scope cl C X.env) fp) ifs (tTo c.quiet tst))
    (he : ∀ (s : Shared) (H : Hp) (C : Addr) (cl : List (Str × Addr)) (fp : List Addr), PE (X.blk s H scope (compEnvC scope cl C X.env) fp) elt (tV c.quiet ety fe))
    (ce : coe ety .fz = true) (hw : ∀ j ∈ tgSlots t, j ∈ own.map (·.2)) (hs : ∀ x, foldedSetIterable iter X.env x = pure x) :
    PE X (.ListComp elt [⟨tgE, iter, ifs, 0⟩] scope pos) (tV c (.fr (.lst .fz)) fun δ => bndL (fi δ) fun ds => okO (lcD t tst fe (unsetL δ (own.map (·.2))) ds)) := by
  refine PE.imp (pe_lc hc hN hi ok hg ht he hs) fun σ H Q h => ?_
  obtain ⟨F, δ, E, h⟩ := h
  change Gv c _ F H σ Q (bndL (fi δ) _) at h
  refine ⟨F, δ, E, ?_⟩
  cases e : fi δ with
  | none => rw [e] at h; exact h
  | some r =>
    rw [e] at h
    cases r with
    | ex x => exact h
    | ok ds =>
      intro J F1 H1 u w D0 hD
      change Gv c _ F H σ Q (okO (lcD t tst fe (unsetL δ (own.map (·.2))) ds)) at h
      obtain ⟨d, e1, q⟩ := h.okT
      unfold lcD at e1
      by_cases hz : ds.length < sizeLine
      · rw [if_pos hz] at e1
        cases e2 : lcGo t tst fe (unsetL δ (own.map (·.2))) ds with
        | none => rw [e2] at e1; cases e1
        | some es =>
          rw [e2] at e1
          cases e1
          refine lc_turns (E.up u) w hD hz ce hw e2 fun F3 H3 acc u3 f3 h3 i3 => q _ F3 H3 (u.trans u3) ⟨[D0], ?_, by simp, fun a ha => ?_⟩
          · simp only [Own]
            exact ⟨D0, acc, [], rfl, h3, OwnL.of_fz i3, rfl⟩
          · have z : a = D0 := by simpa using ha
            subst z
            exact ⟨u.hh.free hD, f3⟩
      · rw [if_neg hz] at e1; cases e1
end Ev

set_option maxHeartbeats 4000000
/-! Ev, part J: statements. -/
namespace Ev
open PySem PySem.Spec PyProof.Rows L2
variable {X : Cx} {c : Cp} {F G H F' G' H' : Hp} {σ : L2.St} {δ : Env} {a b e tg : Expr} {es : List Expr} {pos p : Pos} {x : Str} {ta tb tc ty rt : Ty} {oa ob oc o : OT} {os : List OT} {fa fb fc : Env → Option R} {fs : Env → Option RL} {st : Stmt} {ss : List Stmt}
inductive Out where
  | nx (δ : Env) | ret (d : D) (δ : Env) | brk (δ : Env) | ct (δ : Env) | ex (x : Xd) (δ : Env)
abbrev So := Env → Option Out
/-- what is wanted of an outcome; F: what was frozen ahead -/
def Gs (c : Cp) (rt : Ty) (F : Hp) (D : Ends) : Option Out → Prop
  | some (.nx δ) => ∀ σ F' H', Same F F' → c.E F' H' σ δ → D.nx σ H'
  | some (.brk δ) => ∀ σ F' H', Same F F' → c.E F' H' σ δ → D.bk σ H'
  | some (.ct δ) => ∀ σ F' H', Same F F' → c.E F' H' σ δ → D.ct σ H'
  | some (.ret d δ) => ∀ v σ F' H', c.E F' H' σ δ → Post c.K c.G F' H' rt d v → D.rt v H'
  | some (.ex x δ) => ∀ cls u dx σ F' H', RelV cls u → Same F F' → c.E F' H' σ δ → XRep c.K F' H' x cls dx → c.W u dx σ H'
  | none => False
def tS (c : Cp) (rt : Ty) (g : So) : TS := fun D σ H => ∃ F δ, c.E F H σ δ ∧ Gs c rt F D (g δ)
theorem Gs.up {D : Ends} {r : Option Out} (g : Gs c rt F D r) (s : Same F F') : Gs c rt F' D r := by
  cases r with
  | none => exact g
  | some r =>
    cases r with
    | nx δ => exact fun σ F2 H2 s2 E => g σ F2 H2 (s.trans s2) E
    | brk δ => exact fun σ F2 H2 s2 E => g σ F2 H2 (s.trans s2) E
    | ct δ => exact fun σ F2 H2 s2 E => g σ F2 H2 (s.trans s2) E
    | ret d δ => exact g
    | ex x δ => exact fun cls u dx σ F2 H2 r s2 E => g cls u dx σ F2 H2 r (s.trans s2) E
theorem PS.imp {t t' : TS} (h : PS X st t) (i : ∀ D σ H, t' D σ H → t D σ H) : PS X st t' := ⟨fun pins s σ H D I q => h.run pins s σ H D I (i D σ H q)⟩
theorem PSs.imp {t t' : TS} (h : PSs X ss t) (i : ∀ D σ H, t' D σ H → t D σ H) : PSs X ss t' := ⟨fun pins s σ H D I q => h.run pins s σ H D I (i D σ H q)⟩
def seqO (r : Option Out) (k : So) : Option Out := match r with
  | some (.nx δ) => k δ
  | r => r
theorem ss_nil : PSs X [] (tS c rt fun δ => some (.nx δ)) := by
  refine PSs.imp pss_nil fun D σ H h => ?_
  obtain ⟨F, δ, E, h⟩ := h
  exact h σ F H (Same.refl _) E
theorem ss_cons {g k : So} (h1 : PS X st (tS c rt g)) (h2 : PSs X ss (tS c rt k)) : PSs X (st :: ss) (tS c rt fun δ => seqO (g δ) k) := by
  refine PSs.imp (pss_cons h1 h2) fun D σ H h => ?_
  obtain ⟨F, δ, E, h⟩ := h
  refine ⟨F, δ, E, ?_⟩
  change Gs c rt F D (seqO (g δ) k) at h
  cases e : g δ with
  | none => rw [e] at h; exact h
  | some r =>
    rw [e] at h
    cases r with
    | nx δ1 => exact fun σ1 F1 H1 s1 E1 => ⟨F1, δ1, E1, Gs.up h s1⟩
    | brk δ => exact h
    | ct δ => exact h
    | ret d δ => exact h
    | ex x δ => exact h
def bndS (r : Option R) (δ : Env) (k : D → Option Out) : Option Out := match r with
  | some (.ok d) => k d
  | some (.ex x) => some (.ex x δ)
  | none => none
theorem Gs.bad {D : Ends} {x : Xd} (g : Gs c rt F D (some (.ex x δ))) (E : c.E F H σ δ) : Bad c F H σ x := fun cls u dx F' H' r up xr => g cls u dx σ F' H' r up.ff (E.up up) xr
theorem tV.goS {D : Ends} {Q1 : VK} {k : Ev.D → Option Out} (co : coe ta oa = true) (E : c.E F H σ δ) (h : Gs c rt F D (bndS (fa δ) δ k))
    (hk : ∀ d v F1 H1, Up F H F1 H1 → c.E F1 H1 σ δ → (∃ A, Own c.K F1 H1 oa d v A) → Gs c rt F1 D (k d) → Q1 v H1) : tV c ta fa σ H Q1 := by
  refine ⟨F, δ, E, ?_⟩
  cases e : fa δ with
  | none => rw [e] at h; exact h.elim
  | some r =>
    rw [e] at h
    cases r with
    | ex x => exact Gs.bad h E
    | ok d =>
      intro v F1 H1 u p
      obtain ⟨F2, u2, s2, A, ow⟩ := p.coe u co
      exact hk d v F2 H1 u2 (E.up u2) ⟨A, ow⟩ (Gs.up h u2.ff)
/-- the value as it comes -/
theorem tV.goP {D : Ends} {Q1 : VK} {k : Ev.D → Option Out} (E : c.E F H σ δ) (h : Gs c rt F D (bndS (fa δ) δ k))
    (hk : ∀ d v F1 H1, Up F H F1 H1 → c.E F1 H1 σ δ → Post c.K H F1 H1 ta d v → Gs c rt F1 D (k d) → Q1 v H1) : tV c ta fa σ H Q1 := by
  refine ⟨F, δ, E, ?_⟩
  cases e : fa δ with
  | none => rw [e] at h; exact h.elim
  | some r =>
    rw [e] at h
    cases r with
    | ex x => exact Gs.bad h E
    | ok d => exact fun v F1 H1 u p => hk d v F1 H1 u (E.up u) p (Gs.up h u.ff)
def bndSB (r : Option R) (δ : Env) (k : Bool → Option Out) : Option Out := match r with
  | some (.ok (.bl b)) => k b
  | some (.ex x) => some (.ex x δ)
  | _ => none
theorem tT.goS {D : Ends} {Q1 : Bool → Hp → Prop} {k : Bool → Option Out} (E : c.E F H σ δ) (h : Gs c rt F D (bndSB (fa δ) δ k))
    (hk : ∀ b F1 H1, Up F H F1 H1 → c.E F1 H1 σ δ → Gs c rt F1 D (k b) → Q1 b H1) : tT c fa σ H Q1 := by
  refine ⟨F, δ, E, ?_⟩
  cases e : fa δ with
  | none => rw [e] at h; exact h.elim
  | some r =>
    rw [e] at h
    cases r with
    | ex x => exact Gs.bad h E
    | ok d =>
      cases d with
      | bl b => exact fun F1 H1 u => hk b F1 H1 u (E.up u) (Gs.up h u.ff)
      | _ => exact h.elim
/-! ### stores of names -/
theorem Gs.nx {D : Ends} (g : Gs c rt F D (some (.nx δ))) {H1 : Hp} (E : c.E F H1 σ δ) : D.nx σ H1 := g σ F H1 (Same.refl _) E
theorem st_set {i : Nat} {p' : Pos} (hN : X.N.Nodup) (hi : X.N[i]? = some x) (hx : Loc X.env.scope x) (hf : X.fn x = true ∨ X.env.scope.names.lookup x = some .local) (hk : c.Ks[i]? = some (.ve .fz))
    (he : PE X e (tV c ta fa)) (ca : coe ta .fz = true) (hs : swapsWith e (some (.Name x p')) pos.line X.env = pure false) :
    PS X (.Assign [.Name x p'] e pos) (tS c rt fun δ => bndS (fa δ) δ fun d => some (.nx (δ.set i (some d)))) := by
  refine PS.imp (ps_set hN hi hx he hs hf) fun D σ H h => ?_
  obtain ⟨F, δ, E, h⟩ := h
  refine tV.goS ca E h fun d v F1 H1 u1 E1 ⟨A, hx⟩ h1 => ?_
  exact Gs.nx h1 (EnvOk.setVe E1 hk hx.is)
/-- a name whose list may be changed gets a new one -/
theorem st_own {i : Nat} {p' : Pos} (hN : X.N.Nodup) (hi : X.N[i]? = some x) (hx : Loc X.env.scope x) (hf : X.fn x = true ∨ X.env.scope.names.lookup x = some .local) (hk : c.Ks[i]? = some (.ow o))
    (he : PE X e (tV c ta fa)) (ca : ta = .fr o) (hs : swapsWith e (some (.Name x p')) pos.line X.env = pure false) :
    PS X (.Assign [.Name x p'] e pos) (tS c rt fun δ => bndS (fa δ) δ fun d => some (.nx (δ.set i (some d)))) := by
  subst ca
  refine PS.imp (ps_set hN hi hx he hs hf) fun D σ H h => ?_
  obtain ⟨F, δ, E, h⟩ := h
  refine tV.goP E h fun d v F1 H1 u1 E1 p h1 => ?_
  obtain ⟨A, ow, nd, nn⟩ := p
  exact Gs.nx h1 (EnvOk.setOw E u1 hk ow nd nn)
/-- a, b = e -/
theorem st_tup {t : Tg} (hg : PG X tg (tG c t)) (he : PE X e (tV c ta fa)) (ca : coe ta .fz = true) (hs : swapsWithSole [tg] e pos.line X.env = pure false) (hw : swappedStores [tg] e X.env = pure none)
    (h1 : (assignEach [tg] X.env).map (·.2) = [assign tg X.env]) :
    PS X (.Assign [tg] e pos) (tS c rt fun δ => bndS (fa δ) δ fun d => (bindT t d δ).map .nx) := by
  refine PS.imp (ps_asg he hg hs hw h1) fun D σ H h => ?_
  obtain ⟨F, δ, E, h⟩ := h
  refine tV.goS ca E h fun d v F1 H1 u1 E1 ⟨A, hx⟩ h1 => ?_
  cases e : bindT t d δ with
  | none => rw [e] at h1; exact h1.elim
  | some δ' =>
    rw [e] at h1
    exact ⟨F1, δ, d, δ', E1, hx.is, e, fun σ' _ E' => h1 σ' F1 H1 (Same.refl _) E'⟩
theorem EnvOk.toUp {K : PySem.W.Frag} {Ks : List Kd} {F0 : Hp} (E : EnvOk K Ks F0 G F H σ δ) : Up F0 G F H := ⟨E.f0, E.gh, E.fr, E.fh⟩
/-- return e, frozen -/
theorem st_ret (he : PE X e (tV c ta fa)) (ca : coe ta .fz = true) : PS X (.Return (some e) pos) (tS c (.vw .fz) fun δ => bndS (fa δ) δ fun d => some (.ret d δ)) := by
  refine PS.imp (ps_ret he) fun D σ H h => ?_
  obtain ⟨F, δ, E, h⟩ := h
  refine tV.goS ca E h fun d v F1 H1 u1 E1 ⟨A, hx⟩ h1 => ?_
  exact h1 v σ F1 H1 E1 ⟨[], Own.of_is hx.is⟩
/-- .. what was made since the entry -/
theorem st_retFr (he : PE X e (tV c ta fa)) (ca : ta = .fr o) : PS X (.Return (some e) pos) (tS c (.fr o) fun δ => bndS (fa δ) δ fun d => some (.ret d δ)) := by
  subst ca
  refine PS.imp (ps_ret he) fun D σ H h => ?_
  obtain ⟨F, δ, E, h⟩ := h
  refine tV.goP E h fun d v F1 H1 u1 E1 p h1 => ?_
  exact h1 v σ F1 H1 E1 (p.up E.gh)
/-- .. a name's own list -/
theorem st_retOw {i : Nat} (hN : X.N[i]? = some x) (hv : Vis X.env.scope x) (hd : (x == ("__debug__" : Str)) = false) (hcd : (x == ("__classdict__" : Str)) = false) (hk : c.Ks[i]? = some (.ow o)) :
    PS X (.Return (some (.Name x p)) pos) (tS c (.fr o) fun δ => bndS (evVar i δ) δ fun d => some (.ret d (δ.set i none))) := by
  refine PS.imp (ps_ret (pe_var hN hv hd hcd)) fun D σ H h => ?_
  obtain ⟨F, δ, E, h⟩ := h
  change Gs c (.fr o) F D (bndS (evVar i δ) δ fun d => some (.ret d (δ.set i none))) at h
  unfold evVar at h
  cases e : δ[i]? with
  | none => rw [e] at h; exact h.elim
  | some q =>
    cases q with
    | none => rw [e] at h; exact h.elim
    | some d =>
      rw [e] at h
      obtain ⟨As, h1, h2, h3, h4⟩ := EnvOk.sl E
      obtain ⟨v, e1, s⟩ := h1 i _ d hk e
      refine ⟨v, e1, h v σ F H (EnvOk.unset E i) ⟨As i, s, h2 i, fun a ha => ?_⟩⟩
      obtain ⟨x1, x2, x3⟩ := h4 i a ha
      exact ⟨x2, x1⟩
theorem st_retN : PS X (.Return none pos) (tS c (.vw .fz) fun δ => some (.ret .non δ)) := by
  refine PS.imp ps_retN fun D σ H h => ?_
  obtain ⟨F, δ, E, h⟩ := h
  exact h .non σ F H E ⟨[], Own.of_is (by simp only [Is])⟩
theorem st_pass : PS X (.Pass pos) (tS c rt fun δ => some (.nx δ)) := by
  refine PS.imp ps_pass fun D σ H h => ?_
  obtain ⟨F, δ, E, h⟩ := h
  exact Gs.nx h E
theorem st_break : PS X (.Break pos) (tS c rt fun δ => some (.brk δ)) := by
  refine PS.imp ps_break fun D σ H h => ?_
  obtain ⟨F, δ, E, h⟩ := h
  exact h σ F H (Same.refl _) E
theorem st_cont : PS X (.Continue pos) (tS c rt fun δ => some (.ct δ)) := by
  refine PS.imp ps_continue fun D σ H h => ?_
  obtain ⟨F, δ, E, h⟩ := h
  exact h σ F H (Same.refl _) E
/-- an expression for its errors alone -/
theorem st_expr (he : PE X e (tV c ta fa)) (hs : swapsWith e none pos.line X.env = pure false) : PS X (.Expr e pos) (tS c rt fun δ => bndS (fa δ) δ fun _ => some (.nx δ)) := by
  refine PS.imp (ps_expr he hs) fun D σ H h => ?_
  obtain ⟨F, δ, E, h⟩ := h
  exact tV.goP E h fun d v F1 H1 u1 E1 p h1 => Gs.nx h1 E1
theorem st_if {ga gb : So} {sa sb : List Stmt} (hc : PT X e (tT c fc)) (ha : PSs X sa (tS c rt ga)) (hb : PSs X sb (tS c rt gb)) : PS X (.If e sa sb pos) (tS c rt fun δ => bndSB (fc δ) δ fun b => if b then ga δ else gb δ) := by
  refine PS.imp (ps_if hc ha hb) fun D σ H h => ?_
  obtain ⟨F, δ, E, h⟩ := h
  refine tT.goS E h fun b F1 H1 u1 E1 h1 => ?_
  cases b with
  | true => exact ⟨F1, δ, E1, h1⟩
  | false => exact ⟨F1, δ, E1, h1⟩
/-! ### loops -/
def forGo (t : Tg) (body : So) : List D → So
  | [], δ => some (.nx δ)
  | d :: ds, δ => (bindT t d δ).bind fun δ1 => match body δ1 with
    | some (.nx δ2) => forGo t body ds δ2
    | some (.ct δ2) => forGo t body ds δ2
    | some (.brk δ2) => some (.nx δ2)
    | r => r
def bndSL (r : Option RL) (δ : Env) (k : List D → Option Out) : Option Out := match r with
  | some (.ok d) => k d
  | some (.ex x) => some (.ex x δ)
  | none => none
/-- what of an outcome a loop hands on -/
theorem st_for {iter : Expr} {body : List Stmt} {gm : Gm} {t : Tg} {g : So} {fi : Env → Option RL} (hp : PassesOwn (model X.prog X.w) X.A X.env X.xe) (hc : X.calm = true) (hi : PI X tg iter (tI c gm fi)) (hg : PG X tg (tG c t)) (hb : PSs X body (tS c rt g))
    (hgm : gm ≠ .nw) (hs : ∀ x, foldedSetIterable iter X.env x = pure x) : PS X (.For tg iter body [] pos) (tS c rt fun δ => bndSL (fi δ) δ fun ds => forGo t g ds δ) := by
  refine PS.imp (ps_for hp hc hi hg hb hs) fun D σ H h => ?_
  obtain ⟨F, δ, E, h⟩ := h
  change Gs c rt F D (bndSL (fi δ) δ _) at h
  refine ⟨F, δ, E, ?_⟩
  cases e : fi δ with
  | none => rw [e] at h; exact h
  | some r =>
    rw [e] at h
    cases r with
    | ex x => exact Gs.bad h E
    | ok ds =>
      intro J F1 H1 u w
      change Gs c rt F D (forGo t g ds δ) at h
      refine ⟨fun i m σ H => m = ds.length - i ∧ i ≤ ds.length ∧ ∃ F δ, c.E F H σ δ ∧ Same F1 F ∧ Gs c rt F D (forGo t g (ds.drop i) δ), ⟨ds.length, by simp, Nat.zero_le _, F1, δ, E.up u, Same.refl _, by simpa using Gs.up h u.ff⟩, ?_⟩
      rintro i m σ2 H2 ⟨rfl, hle, F2, δ2, E2, s2, h2⟩
      have s3 : Same (gm.hp c H1) H2 := by
        cases gm with
        | fz => exact fun _ _ e => nomatch e
        | en => exact E2.gh
        | nw => exact absurd rfl hgm
      obtain ⟨w1, w2⟩ := w F2 H2 s2 E2.fh s3 i
      by_cases hlt : i < ds.length
      · have hd : ds[i]? = some ds[i] := List.getElem?_eq_getElem hlt
        obtain ⟨go, y1⟩ := w1 _ hd
        rw [drop_get hd] at h2
        refine .inr ⟨go, fun σ' H' => (ds.length - (i + 1) = ds.length - (i + 1) ∧ i + 1 ≤ ds.length ∧ ∃ F δ, c.E F H' σ' δ ∧ Same F1 F ∧ Gs c rt F D (forGo t g (ds.drop (i + 1)) δ)), fun σ' H' n => ⟨_, by omega, n⟩, fun x H' y => ?_⟩
        obtain ⟨F', u', hx⟩ := y1 x H' y
        simp only [forGo] at h2
        cases e1 : bindT t ds[i] δ2 with
        | none => rw [e1] at h2; exact h2.elim
        | some δ1 =>
          rw [e1] at h2
          refine ⟨F', δ2, ds[i], δ1, E2.up u', hx, e1, fun σ3 _ E3 => ⟨F', δ1, E3, ?_⟩⟩
          have sF : Same F1 F' := s2.trans u'.ff
          have h3 := Gs.up h2 u'.ff
          change Gs c rt F' D (match g δ1 with
            | some (.nx δ2) => forGo t g (ds.drop (i + 1)) δ2
            | some (.ct δ2) => forGo t g (ds.drop (i + 1)) δ2
            | some (.brk δ2) => some (.nx δ2)
            | r => r) at h3
          cases e2 : g δ1 with
          | none => rw [e2] at h3; exact h3
          | some r =>
            rw [e2] at h3
            cases r with
            | nx δ4 => exact fun σ4 F4 H4 s4 E4 => ⟨rfl, hlt, F4, δ4, E4, sF.trans s4, Gs.up h3 s4⟩
            | ct δ4 => exact fun σ4 F4 H4 s4 E4 => ⟨rfl, hlt, F4, δ4, E4, sF.trans s4, Gs.up h3 s4⟩
            | brk δ4 => exact fun σ4 F4 H4 s4 E4 => h3 σ4 F4 H4 s4 E4
            | ret d δ4 => exact h3
            | ex x δ4 => exact h3
      · have ei : i = ds.length := by omega
        subst ei
        rw [List.drop_length] at h2
        exact .inl ⟨w2 (Nat.le_refl _), h2 σ2 F2 H2 (Same.refl _) E2⟩
def whGo (tst : Env → Option R) (body : So) : Nat → So
  | 0, _ => none
  | n + 1, δ => bndSB (tst δ) δ fun b => if b then (match body δ with
      | some (.nx δ2) => whGo tst body n δ2
      | some (.ct δ2) => whGo tst body n δ2
      | some (.brk δ2) => some (.nx δ2)
      | r => r) else some (.nx δ)
theorem st_while {body : List Stmt} {g : So} {n : Nat} (hp : PassesOwn (model X.prog X.w) X.A X.env X.xe) (hc : PT X e (tT c fc)) (hb : PSs X body (tS c rt g)) : PS X (.While e body [] pos) (tS c rt (whGo fc g n)) := by
  refine PS.imp (ps_while hp hc hb) fun D σ H h => ?_
  obtain ⟨F, δ, E, h⟩ := h
  refine ⟨fun m σ H => ∃ F δ, c.E F H σ δ ∧ Gs c rt F D (whGo fc g m δ), ⟨n, F, δ, E, h⟩, ?_⟩
  rintro m σ2 H2 ⟨F2, δ2, E2, h2⟩
  cases m with
  | zero => exact h2.elim
  | succ m =>
    simp only [whGo] at h2
    refine tT.goS E2 h2 fun b F1 H1 u1 E1 h1 => ?_
    cases b with
    | false => exact Gs.nx h1 E1
    | true =>
      refine ⟨fun σ' H' => ∃ F δ, c.E F H' σ' δ ∧ Gs c rt F D (whGo fc g m δ), fun σ' H' q => ⟨m, by omega, q⟩, F1, δ2, E1, ?_⟩
      change Gs c rt F1 D (match g δ2 with
        | some (.nx δ2) => whGo fc g m δ2
        | some (.ct δ2) => whGo fc g m δ2
        | some (.brk δ2) => some (.nx δ2)
        | r => r) at h1
      cases e2 : g δ2 with
      | none => rw [e2] at h1; exact h1
      | some r =>
        rw [e2] at h1
        cases r with
        | nx δ4 => exact fun σ4 F4 H4 s4 E4 => ⟨F4, δ4, E4, Gs.up h1 s4⟩
        | ct δ4 => exact fun σ4 F4 H4 s4 E4 => ⟨F4, δ4, E4, Gs.up h1 s4⟩
        | brk δ4 => exact fun σ4 F4 H4 s4 E4 => h1 σ4 F4 H4 s4 E4
        | ret d δ4 => exact h1
        | ex x δ4 => exact h1
end Ev

set_option maxHeartbeats 4000000
/-! Ev, part K: defs; a name's list frozen for the rest; append and the like. -/
namespace Ev
open PySem PySem.Spec PyProof.Rows L2
variable {X : Cx} {c : Cp} {F G H F' G' H' : Hp} {σ : L2.St} {δ : Env} {a b e tg : Expr} {es : List Expr} {pos p : Pos} {x : Str} {ta tb tc ty rt : Ty} {oa ob oc o : OT} {os : List OT} {fa fb fc : Env → Option R} {fs : Env → Option RL} {st : Stmt} {ss : List Stmt}
/-! ### freezing a name for the rest of a suite -/
def unsO (i : Nat) : Option Out → Option Out
  | some (.nx δ) => some (.nx (δ.set i none))
  | some (.brk δ) => some (.brk (δ.set i none))
  | some (.ct δ) => some (.ct (δ.set i none))
  | some (.ret d δ) => some (.ret d (δ.set i none))
  | some (.ex x δ) => some (.ex x (δ.set i none))
  | none => none
def Cp.fz (c : Cp) (i : Nat) : Cp := { c with Ks := c.Ks.set i (.ve .fz) }
theorem EnvOk.fzTo {K : PySem.W.Frag} {Ks : List Kd} {F0 : Hp} (E : EnvOk K Ks F0 G F H σ δ) {i : Nat} (hk : Ks[i]? = some (.ow o)) : ∃ F', Same F F' ∧ EnvOk K (Ks.set i (.ve .fz)) F0 G F' H σ δ := by
  obtain ⟨As, h1, h2, h3, h4⟩ := EnvOk.sl E
  have hi : i < Ks.length := (List.getElem?_eq_some_iff.mp hk).1
  have sF : Same F (frz F H (As i)) := frz_ff E.fh
  have sH : Same (frz F H (As i)) H := frz_fh E.fh
  refine ⟨frz F H (As i), sF, by rw [List.length_set]; exact E.ls, by rw [List.length_set]; exact E.ld, E.gh, E.f0.trans sF, sH, fun b e g => ?_, fun j => if j = i then [] else As j, fun j k d e1 e2 => ?_, fun j => ?_, fun j l b ha hb => ?_, fun j b ha => ?_⟩
  · by_cases hb : b ∈ As i
    · exact absurd (h4 i b hb).2.1 g
    · rw [frz_out hb]; exact E.fr b e g
  · by_cases e : j = i
    · subst e
      rw [List.getElem?_set_self hi] at e1
      cases e1
      obtain ⟨v, e3, s⟩ := h1 j _ d hk e2
      exact ⟨v, e3, [], Own.of_is (Own.freeze sF (show Own K F H o d v (As j) from s) fun a ha => frz_in ha)⟩
    · rw [List.getElem?_set_ne (Ne.symm e)] at e1
      obtain ⟨v, e3, s⟩ := h1 j k d e1 e2
      refine ⟨v, e3, ?_⟩
      cases k with
      | ve o =>
        obtain ⟨B, s⟩ := s
        exact ⟨B, s.frame sF fun _ _ => rfl⟩
      | rd o v0 =>
        obtain ⟨er, B, s⟩ := s
        exact ⟨er, B, s.frame sF fun _ _ => rfl⟩
      | ow o =>
        show Own K _ H o d v (if j = i then [] else As j)
        rw [if_neg e]
        exact Own.frame sF (show Own K F H o d v (As j) from s) fun _ _ => rfl
      | pn o v0 =>
        refine ⟨s.1, ?_⟩
        show Own K _ H o d v (if j = i then [] else As j)
        rw [if_neg e]
        exact Own.frame sF (show Own K F H o d v (As j) from s.2) fun _ _ => rfl
  · show (if j = i then [] else As j).Nodup
    split
    · exact List.nodup_nil
    · exact h2 j
  · have ha' : b ∈ (if j = i then [] else As j) := ha
    have hb' : b ∈ (if l = i then [] else As l) := hb
    split at ha' <;> split at hb'
    · cases ha'
    · cases ha'
    · cases hb'
    · exact h3 j l b ha' hb'
  · have ha' : b ∈ (if j = i then [] else As j) := ha
    split at ha'
    · cases ha'
    · rename_i ne
      obtain ⟨x1, x2, x3⟩ := h4 j b ha'
      refine ⟨?_, x2, x3⟩
      rw [frz_out fun hb => ne (h3 j i b ha' hb)]
      exact x1
theorem EnvOk.fzBack {K : PySem.W.Frag} {Ks : List Kd} {F0 : Hp} {i : Nat} {k : Kd} (E : EnvOk K (Ks.set i k) F0 G F H σ δ) : EnvOk K Ks F0 G F H σ (δ.set i none) := by
  obtain ⟨As, h1, h2, h3, h4⟩ := EnvOk.sl E
  refine ⟨by have := E.ls; rwa [List.length_set] at this, by have := E.ld; rw [List.length_set] at this ⊢; exact this, E.gh, E.f0, E.fh, E.fr, As, fun j k' d e1 e2 => ?_, h2, h3, h4⟩
  rcases getElem?_set_or e2 with ⟨rfl, e3⟩ | ⟨ne, e3⟩
  · cases e3
  · exact h1 j k' d (by rw [List.getElem?_set_ne (Ne.symm ne)]; exact e1) e3
theorem ss_frz {i : Nat} {g : So} (hk : c.Ks[i]? = some (.ow o)) (h : PSs X ss (tS (c.fz i) rt g)) : PSs X ss (tS c rt fun δ => unsO i (g δ)) := by
  refine PSs.imp h fun D σ H h => ?_
  obtain ⟨F, δ, E, h⟩ := h
  obtain ⟨F', sF, E'⟩ := EnvOk.fzTo E hk
  refine ⟨F', δ, E', ?_⟩
  change Gs c rt F D (unsO i (g δ)) at h
  cases e : g δ with
  | none => rw [e] at h; exact h
  | some r =>
    rw [e] at h
    cases r with
    | nx δ => exact fun σ F2 H2 s2 E2 => h σ F2 H2 (sF.trans s2) (EnvOk.fzBack E2)
    | brk δ => exact fun σ F2 H2 s2 E2 => h σ F2 H2 (sF.trans s2) (EnvOk.fzBack E2)
    | ct δ => exact fun σ F2 H2 s2 E2 => h σ F2 H2 (sF.trans s2) (EnvOk.fzBack E2)
    | ret d δ => exact fun v σ F2 H2 E2 p => h v σ F2 H2 (EnvOk.fzBack E2) p
    | ex x δ => exact fun cls u dx σ F2 H2 r s2 E2 xr => h cls u dx σ F2 H2 r (sF.trans s2) (EnvOk.fzBack E2) xr
/-! ### a name's list -/
theorem EnvOk.lst {K : PySem.W.Frag} {Ks : List Kd} {F0 : Hp} (E : EnvOk K Ks F0 G F H σ δ) {i : Nat} {ds : List D} (hk : Ks[i]? = some (.ow (.lst .fz))) (hd : δ[i]? = some (some (.lst ds))) :
    ∃ l vs, σ[i]? = some (some (.ref l)) ∧ H l = some (.lst vs) ∧ IsL K F ds vs ∧ ∀ ds' vs', IsL K F ds' vs' → EnvOk K Ks F0 G F (upd H l (.lst vs')) σ (δ.set i (some (.lst ds'))) := by
  obtain ⟨As, h1, h2, h3, h4⟩ := EnvOk.sl E
  obtain ⟨v, e, s⟩ := h1 i _ _ hk hd
  have s' : Own K F H (.lst .fz) (.lst ds) v (As i) := s
  simp only [Own] at s'
  obtain ⟨l, vs, B, rfl, hl, hL, eA⟩ := s'
  obtain ⟨eB, hI⟩ := hL.fz
  subst eB
  refine ⟨l, vs, e, hl, hI, fun ds' vs' hI' => EnvOk.put E hk hd e fun A hA nA fA => ?_⟩
  simp only [Own] at hA
  obtain ⟨l2, vs2, B2, e2, hl2, hL2, rfl⟩ := hA
  cases e2
  obtain ⟨eB2, _⟩ := hL2.fz
  subst eB2
  have fl : F l = none := fA l (by simp)
  refine ⟨[l], ?_, by simp, Same.refl _, fun b u q => ?_, fun b q _ => q, fun b hb => .inl hb, fun b hb => ?_, fun b hb _ => ?_⟩
  · simp only [Own]
    exact ⟨l, vs', [], rfl, upd_same, OwnL.of_fz hI', rfl⟩
  · have ne : b ≠ l := fun z => by rw [z, fl] at q; cases q
    rw [upd_ne ne]; exact E.fh b u q
  · have : b = l := by simpa using hb
    rw [this]; exact fl
  · have ne : b ≠ l := fun z => hb (by simp [z])
    rw [upd_ne ne]
def lstAt (δ : Env) (i : Nat) : Option (List D) := match δ[i]? with
  | some (some (.lst ds)) => some ds
  | _ => none
theorem lstAt_some {i : Nat} {ds : List D} (h : lstAt δ i = some ds) : δ[i]? = some (some (.lst ds)) := by
  unfold lstAt at h
  split at h
  · rename_i q; cases h; exact q
  · cases h
def appO (i : Nat) (d : D) (δ : Env) : Option Out := (lstAt δ i).bind fun ds => if ds.length < sizeLine then some (.nx (δ.set i (some (.lst (ds ++ [d]))))) else none
theorem isL_app {K : PySem.W.Frag} : ∀ {ds es : List D} {vs ws : List V}, IsL K F ds vs → IsL K F es ws → IsL K F (ds ++ es) (vs ++ ws)
  | [], es, vs, ws, h, h2 => by simp only [IsL] at h; subst h; exact h2
  | d :: ds, es, vs, ws, h, h2 => by
    simp only [IsL] at h
    obtain ⟨v, r, rfl, h1, h3⟩ := h
    exact ⟨v, r ++ ws, rfl, h1, isL_app h3 h2⟩
variable {apos cpos : Pos}
theorem Gs.none {D : Ends} (h : Gs c rt F D none) : False := h
theorem bind_someO {α : Type} {r : Option α} {k : α → Option Out} {D : Ends} (h : Gs c rt F D (r.bind k)) : ∃ x, r = some x ∧ Gs c rt F D (k x) := by
  cases r with
  | none => exact h.elim
  | some x => exact ⟨x, rfl, h⟩
theorem st_append {i : Nat} (hK : X.K = c.K) (hN : X.N[i]? = some x) (hv : Vis X.env.scope x) (hd : (x == ("__debug__" : Str)) = false) (hcd : (x == ("__classdict__" : Str)) = false) (hk : c.Ks[i]? = some (.ow (.lst .fz)))
    (ha : PE X a (tV c ta fa)) (ca : coe ta .fz = true)
    (hbase : attributeBase (.Name x p) "append" X.env (eval (.Name x p) X.env) = eval (.Name x p) X.env)
    (hfew : ((backTo cpos (starEach [a] X.env)).all (fun x => !x.1) && (backToKw cpos (keywordEach [] X.env)).all (fun x => x.1.isSome) && decide ([a].length + ([] : List Keyword).length + (if ([] : List Keyword).isEmpty then 0 else 1) < 30)) = true)
    (hline : (apos.endLine == cpos.line) = true) (hs : starEach [a] X.env = (false, eval a X.env) :: starEach [] X.env) (hplain : (backTo cpos (starEach [] X.env)).any (·.1) = false)
    (hsw : swapsWith (.Call (.Attribute (.Name x p) "append" apos) [a] [] cpos) none pos.line X.env = pure false) :
    PS X (.Expr (.Call (.Attribute (.Name x p) "append" apos) [a] [] cpos) pos) (tS c rt fun δ => (lstAt δ i).bind fun _ => bndS (fa δ) δ fun d => appO i d δ) := by
  refine PS.imp (ps_expr (pe_bm PySem.F.plainAttrs_list PySem.F.slot_list_append PySem.F.type_list_append mt_append (pe_var hN hv hd hcd) (pa_cons ha pa_nil hs) hbase hfew hline hs hplain) hsw) fun D σ H h => ?_
  obtain ⟨F, δ, E, h⟩ := h
  obtain ⟨ds, e1, h⟩ := bind_someO h
  have hd0 := lstAt_some e1
  obtain ⟨l, vs, eσ, hl, hI, _⟩ := EnvOk.lst E hk hd0
  refine ⟨_, eσ, .inl ⟨rfl, vs, SqL.of hl⟩, ?_⟩
  refine tV.goS ca E h fun d v F1 H1 u1 E1 ⟨A, hx⟩ h1 => ?_
  obtain ⟨ds1, e2, h1⟩ := bind_someO h1
  rw [e1] at e2; cases e2
  obtain ⟨l2, vs2, eσ2, hl2, hI2, put⟩ := EnvOk.lst E1 hk hd0
  rw [eσ] at eσ2; cases eσ2
  by_cases g : ds.length < sizeLine
  · rw [if_pos g] at h1
    refine ⟨l, vs2, v, rfl, rfl, hl2, by rw [hI2.length]; exact g, ?_⟩
    exact Gs.nx h1 (put _ _ (isL_app hI2 ⟨v, [], rfl, hx.is, by simp only [IsL]⟩))
  · rw [if_neg g] at h1; exact h1.elim
/-! ### defs -/
def outR (rt : Ty) : Option Out → Option R
  | some (.nx _) => (match rt with | .vw .fz => some (.ok .non) | _ => none)
  | some (.ret d _) => some (.ok d)
  | some (.ex x _) => some (.ex x)
  | _ => none
def startE (n : Nat) (ds : List D) : Env := ds.map some ++ List.replicate (n - ds.length) none
def defF (rt : Ty) (n : Nat) (g : So) : Fn := fun ds => outR rt (g (startE n ds))
theorem ViewL.get {K : PySem.W.Frag} : ∀ {os : List OT} {ds : List D} {vs : List V} {i : Nat} {o : OT} {d : D}, ViewL K F H os ds vs → os[i]? = some o → ds[i]? = some d → ∃ v, vs[i]? = some v ∧ ∃ A, Own K F H o d v A
  | [], ds, vs, i, o, d, h, e1, e2 => by simp at e1
  | o1 :: os, [], vs, i, o, d, h, e1, e2 => by simp at e2
  | o1 :: os, d1 :: ds, vs, 0, o, d, h, e1, e2 => by
    simp only [ViewL] at h
    obtain ⟨v, r, rfl, h1, h2⟩ := h
    cases e1; cases e2
    exact ⟨v, rfl, h1⟩
  | o1 :: os, d1 :: ds, vs, i + 1, o, d, h, e1, e2 => by
    simp only [ViewL] at h
    obtain ⟨v, r, rfl, h1, h2⟩ := h
    exact ViewL.get (os := os) (ds := ds) (vs := r) (i := i) h2 (by simpa using e1) (by simpa using e2)
theorem ViewL.lend {K : PySem.W.Frag} : ∀ {os : List OT} {ds : List D} {vs : List V}, ViewL K F H os ds vs → ds.length = os.length
  | [], [], _, h => rfl
  | o :: os, d :: ds, _, h => by
    simp only [ViewL] at h
    obtain ⟨v, r, rfl, _, h2⟩ := h
    rw [List.length_cons, List.length_cons, ViewL.lend h2]
  | [], _ :: _, _, h => by simp [ViewL] at h
  | _ :: _, [], _, h => by simp [ViewL] at h
theorem startE_get {n i : Nat} {ds : List D} {d : D} (h : (startE n ds)[i]? = some (some d)) : ds[i]? = some d := by
  unfold startE at h
  by_cases hi : i < ds.length
  · rw [List.getElem?_append_left (by simpa using hi), List.getElem?_map] at h
    cases e : ds[i]? with
    | none => rw [e] at h; cases h
    | some q => rw [e] at h; cases h; rfl
  · rw [List.getElem?_append_right (by simpa using hi), List.getElem?_replicate] at h
    split at h <;> cases h
theorem start_get {N : List Str} {vs : List V} {i : Nat} {v : V} (h : vs[i]? = some v) : (L2.start N vs)[i]? = some (some v) := by
  have hi : i < vs.length := (List.getElem?_eq_some_iff.mp h).1
  unfold L2.start
  rw [List.getElem?_append_left (by simpa using hi), List.getElem?_map, h]; rfl
theorem EnvOk.start {K : PySem.W.Frag} {N : List Str} {Ks : List Kd} {ds : List D} {vs : List V} (s : Same F H) (hN : Ks.length = N.length) (hle : os.length ≤ N.length) (hk : Ks.take os.length = os.map .ve) (h : ViewL K F H os ds vs) :
    EnvOk K Ks F H F H (L2.start N vs) (startE N.length ds) := by
  have l1 := h.len
  have l2 := h.lend
  refine ⟨?_, ?_, Same.refl _, Same.refl _, s, fun a e _ => e, fun _ => [], fun i k d e1 e2 => ?_, fun _ => List.nodup_nil, fun _ _ _ h _ => (nomatch h), fun _ _ h => (nomatch h)⟩
  · unfold L2.start
    rw [List.length_append, List.length_map, List.length_replicate, hN]; omega
  · unfold startE
    rw [List.length_append, List.length_map, List.length_replicate, hN]; omega
  · have e3 := startE_get e2
    have hi : i < os.length := by have := (List.getElem?_eq_some_iff.mp e3).1; omega
    have e4 : os[i]? = some os[i] := List.getElem?_eq_getElem hi
    obtain ⟨v, e5, A, ow⟩ := h.get e4 e3
    refine ⟨v, start_get e5, ?_⟩
    have e6 : (Ks.take os.length)[i]? = some (.ve os[i]) := by rw [hk, List.getElem?_map, e4]; rfl
    rw [List.getElem?_take_of_lt hi, e1] at e6
    cases e6
    exact ⟨A, ow⟩
section
variable {P : Program} {w : World} {K : PySem.W.Frag} {mg : Str → Option Value} {base : Heap} {xn qual : Str} {params : Arguments} {body : List Stmt} {scope : Scope} {dvs : List V} {kws : List (Str × V)} {f : Addr} {fd : FuncData}
/-- a def's body, in every context of a call -/
def BodyOk (P : Program) (w : World) (K : PySem.W.Frag) (mg : Str → Option Value) (base : Heap) (N : List Str) (qual : Str) (scope : Scope) (f : Addr) (k : Nat) (Ks : List Kd) (rt : Ty) (body : List Stmt) (g : So) : Prop :=
  ∀ (cdv : Value) (A : Around) (outer : List PySem.Env) (s : Shared) (H : Hp) (E : XK) (c : Cp), Room k (A.deeper (envOfC qual scope s.heap.objs.size f cdv)) → c.K = K → c.Ks = Ks →
    Takes (cxOf (L2.CX P w) P w K mg base N qual scope f cdv A outer s H E) c.W → PSs (cxOf (L2.CX P w) P w K mg base N qual scope f cdv A outer s H E) body (tS c rt g)
theorem def_ok {N ps : List Str} {k : Nat} {sg : Sig} {g : So} {Ks : List Kd} (FD : FunD K xn qual params body scope dvs kws f fd) (S : FnScope N ps scope) (hKs : Ks.length = N.length) (ha : sg.args.length = ps.length) (hle : ps.length ≤ N.length)
    (hk : Ks.take sg.args.length = sg.args.map .ve) (hb : BodyOk P w K mg base N qual scope f k Ks sg.ret body g) : FnOk P w K mg base (L2.CX P w) (k + 1) f fd ps (spE K sg (defF sg.ret N.length g)) := by
  refine FD.ok S (fun vs H Q E h => ?_) (fun cdv A outer s H vs Q E hr h => ?_)
  · obtain ⟨F, ds, _, h, _⟩ := h
    rw [h.len, ha]
  · obtain ⟨F, ds, sF, hv, hq⟩ := h
    refine ⟨_, hb cdv A outer s H E ⟨K, Ks, F, H, fun u dx _ H' => E u dx H'⟩ hr rfl rfl (takes_of rfl rfl rfl rfl), ?_⟩
    refine ⟨F, startE N.length ds, EnvOk.start sF hKs (by rw [ha]; exact hle) hk hv, ?_⟩
    change GF K F H sg.ret Q E (outR sg.ret (g (startE N.length ds))) at hq
    cases e : g (startE N.length ds) with
    | none => rw [e] at hq; exact hq
    | some r =>
      rw [e] at hq
      cases r with
      | nx δ =>
        intro σ F' H' s1 E1
        cases q : sg.ret with
        | fr o => rw [q] at hq; exact hq.elim
        | vw o =>
          rw [q] at hq
          cases o with
          | fz => exact hq .non F' H' (EnvOk.toUp E1) ⟨[], Own.of_is (by simp only [Is])⟩
          | _ => exact hq.elim
      | brk δ => exact hq.elim
      | ct δ => exact hq.elim
      | ret d δ => exact fun v σ F' H' E1 p => hq v F' H' (EnvOk.toUp E1) p
      | ex x δ => exact fun cls u dx σ F' H' r s1 E1 xr => hq cls u dx F' H' r (EnvOk.toUp E1) xr
end
end Ev

set_option maxHeartbeats 4000000
/-! Ev, part L: constants, methods of texts, zip. -/
namespace Ev
open PySem PySem.Spec PyProof.Rows L2
variable {X : Cx} {c : Cp} {F G H F' G' H' : Hp} {σ : L2.St} {δ : Env} {a b e tg : Expr} {es : List Expr} {pos p : Pos} {x : Str} {ta tb tc ty rt : Ty} {oa ob oc o : OT} {os : List OT} {fa fb fc : Env → Option R} {fs : Env → Option RL} {st : Stmt} {ss : List Stmt}
/-! ### constants of the module, of a class -/
theorem s_gstr {z : Str} (hg : Gl X x) (hm : ∃ t, X.mg x = some (.str z t)) (hz : PyData.strOk z = true) (hd : (x == ("__debug__" : Str)) = false) : PE X (.Name x pos) (tV c (.vw .fz) fun _ => some (.ok (.str z))) := by
  obtain ⟨t, hm⟩ := hm
  exact s_c (pe_glob hg hm (v := .str z) ⟨t, rfl⟩ hd) fun K H => Is.str hz
theorem s_gint {z : Int} (hg : Gl X x) (hm : ∃ t, X.mg x = some (.int z t)) (hd : (x == ("__debug__" : Str)) = false) : PE X (.Name x pos) (tV c (.vw .fz) fun _ => some (.ok (.int z))) := by
  obtain ⟨t, hm⟩ := hm
  exact s_c (pe_glob hg hm (v := .int z) ⟨t, rfl⟩ hd) fun K H => by simp only [Is]
/-- C.f is the number i -/
def CInt (K : PySem.W.Frag) (C : Addr) (f : Str) (i : Int) : Prop := ∃ mc u, ClX.CRead K C mc ∧ ClX.CVal K C mc f (.int i) u
theorem s_cval {C f : Str} {i : Int} (hg : Gl X C) (hm : X.mg C = some (.ref (He.ga X.K C))) (hc : CInt X.K (He.ga X.K C) f i) (hd : (C == ("__debug__" : Str)) = false)
    (hb : attributeBase (.Name C p) f X.env (eval (.Name C p) X.env) = eval (.Name C p) X.env) : PE X (.Attribute (.Name C p) f pos) (tV c (.vw .fz) fun _ => some (.ok (.int i))) := by
  obtain ⟨mc, u, h1, h2⟩ := hc
  refine PE.imp (ClX.pe_cval (pe_glob hg hm (v := .ref _) rfl hd) hb) fun σ H Q h => ?_
  obtain ⟨F, δ, E, h⟩ := h
  exact ⟨_, mc, .int i, u, rfl, h1, h2, h (.int i) F H (Up.refl E.fh) ⟨[], Own.of_is (by simp only [Is])⟩⟩
theorem cintB_ok {K : PySem.W.Frag} {C f : Str} {i : Int} (h : cintB K C f i = true) : CInt K (He.ga K C) f i := by
  obtain ⟨h1, h0⟩ := He.ba h
  obtain ⟨h2, h3⟩ := He.ba h0
  refine ⟨.type "type", ?_⟩
  cases e : PySem.W.findCls K (.ref (He.ga K C)) (.type "type") f with
  | none => rw [e] at h3; cases h3
  | some r =>
    rw [e] at h3
    cases r with
    | get _ _ _ _ => cases h3
    | val v =>
      cases v with
      | int j t =>
        have ej : j = i := of_decide_eq_true h3
        subst ej
        exact ⟨_, ⟨h1, He.eqO_ok h2⟩, ⟨e, ⟨t, rfl⟩⟩⟩
      | _ => cases h3
/-! ### methods of texts -/
/-- a method's rule on data -/
def MetS (X : Cx) (c : Cp) (id : String) (os : List OT) (ty : Ty) (f : D → List D → Option D) : Prop := ∃ r, MtR X id r ∧
  ∀ (F H : Hp) (x : V) (vs : List V) (dx : D) (ds : List D) (d : D) (A : List Addr) (Q : VK), Same F H → Own c.K F H .bw dx x A → ViewL c.K F H os ds vs → f dx ds = some d → (∀ v F' H', Up F H F' H' → Post c.K H F' H' ty d v → Q v H') → r x vs H Q
def tyOk (T : String) (d : D) : Bool := tyNm d == T && (T == "str" || T == "list" || T == "dict") && (match d with | .ins _ _ => false | .cl _ => false | .xv => false | _ => true)
theorem tyV_of {K : PySem.W.Frag} {T : String} {d : D} {v : V} {A : List Addr} (hK : X.K = K) (s : Same F H) (h : Own K F H .bw d v A) (ht : tyOk T d = true) : tyV X.K T v H := by
  unfold tyOk at ht
  simp only [Bool.and_eq_true, beq_iff_eq, Bool.or_eq_true] at ht
  obtain ⟨⟨e, e2⟩, e3⟩ := ht
  subst e
  cases d with
  | str z => rw [h.strV.1]; rfl
  | lst ds => obtain ⟨p, vs, rfl, hp, _⟩ := h.lstF rfl s; exact .inl ⟨rfl, vs, SqL.of hp⟩
  | dic ks ds => obtain ⟨p, vs, rfl, hp, _⟩ := h.dict s; exact .inr (.inr (.inl ⟨rfl, .inl ⟨_, hp⟩⟩))
  | lck ns =>
    have q := h.scal rfl
    simp only [Is] at q
    obtain ⟨p, rfl, hp⟩ := q
    exact .inl ⟨rfl, _, hK ▸ s.seq hp⟩
  | ins _ _ => cases e3
  | cl _ => cases e3
  | xv => cases e3
  | _ => simp [tyNm] at e2
def mG (T : String) (f : D → List D → Option D) (x : D) (ds : List D) : Option R := okO (f x ds)
theorem s_m {T id : String} {name : Str} {apos cpos : Pos} {f : D → List D → Option D} (hK : X.K = c.K) (h : MetS X c id os ty f) (pa : PlainAttrs T) (slot : Slot T name id) (hty : typeOf (.builtin id) = pure (.type "method_descriptor"))
    (ha : PE X a (tV c ta fa)) (ca : coe ta .bw = true) (hb : PA X (e :: es) (tL c os fs)) (hbase : attributeBase a name X.env (eval a X.env) = eval a X.env)
    (hfew : ((backTo cpos (starEach (e :: es) X.env)).all (fun x => !x.1) && (backToKw cpos (keywordEach [] X.env)).all (fun x => x.1.isSome)
      && decide ((e :: es).length + ([] : List Keyword).length + (if ([] : List Keyword).isEmpty then 0 else 1) < 30)) = true)
    (hline : (apos.endLine == cpos.line) = true) (hs : starEach (e :: es) X.env = (false, eval e X.env) :: starEach es X.env) (hplain : (backTo cpos (starEach es X.env)).any (·.1) = false) :
    PE X (.Call (.Attribute a name apos) (e :: es) [] cpos) (tV c ty fun δ => bnd (fa δ) fun x => if tyOk T x then bndL (fs δ) fun ds => okO (f x ds) else none) := by
  obtain ⟨r, hr, hf⟩ := h
  refine PE.imp (pe_bm pa slot hty hr ha hb hbase hfew hline hs hplain) fun σ H Q h => ?_
  obtain ⟨F, δ, E, h⟩ := h
  refine tV.goV ca E h fun dx x F1 H1 u1 E1 ⟨A, hx⟩ h1 => ?_
  by_cases g : tyOk T dx = true
  · rw [if_pos g] at h1
    refine ⟨tyV_of hK u1.fh hx g, tL.goV E1 h1 fun ds vs F2 H2 u2 E2 w h2 => ?_⟩
    obtain ⟨d, e, q⟩ := h2.okT
    exact hf F2 H2 x vs dx ds d A Q u2.fh (hx.up u2) w e q
  · rw [if_neg g] at h1; exact h1.elim
def strsD : List D → Option (List Str)
  | [] => some []
  | .str z :: r => (strsD r).map (z :: ·)
  | _ => none
theorem strsD_is {K : PySem.W.Frag} : ∀ {ds : List D} {ys : List Str} {vs : List V}, strsD ds = some ys → IsL K F ds vs → vs = ys.map V.str ∧ ∀ y ∈ ys, PyData.strOk y = true
  | [], ys, vs, e, h => by cases e; simp only [IsL] at h; exact ⟨h, fun _ h => nomatch h⟩
  | .str z :: r, ys, vs, e, h => by
    simp only [strsD] at e
    cases e2 : strsD r with
    | none => rw [e2] at e; cases e
    | some zs =>
      rw [e2] at e; cases e
      simp only [IsL] at h
      obtain ⟨v, rv, rfl, h1, h2⟩ := h
      obtain ⟨h3, h4⟩ := strsD_is e2 h2
      simp only [Is] at h1
      refine ⟨by rw [h1.1, h3]; rfl, fun y hy => ?_⟩
      rcases List.mem_cons.mp hy with q | q
      · rw [q]; exact h1.2
      · exact h4 y q
  | .non :: r, ys, vs, e, h => by simp [strsD] at e
  | .bl _ :: r, ys, vs, e, h => by simp [strsD] at e
  | .int _ :: r, ys, vs, e, h => by simp [strsD] at e
  | .tup _ :: r, ys, vs, e, h => by simp [strsD] at e
  | .lst _ :: r, ys, vs, e, h => by simp [strsD] at e
  | .dic _ _ :: r, ys, vs, e, h => by simp [strsD] at e
  | .ins _ _ :: r, ys, vs, e, h => by simp [strsD] at e
  | .lck _ :: r, ys, vs, e, h => by simp [strsD] at e
  | .cl _ :: r, ys, vs, e, h => by simp [strsD] at e
  | .xv :: r, ys, vs, e, h => by simp [strsD] at e
def joinGo (a : Str) (ds : List D) : Option D := (strsD ds).bind fun ys => if (ys.map (·.length)).sum + ys.length * a.length ≤ 16777216 then some (.str (Txt.join a ys)) else none
def joinD (x : D) (ds : List D) : Option D := match x, ds with
  | .str a, [.lst ds] => joinGo a ds
  | .str a, [.tup ds] => joinGo a ds
  | _, _ => none
theorem strOk_joinS {a : Str} (ha : PyData.strOk a = true) : ∀ {ys : List Str}, (∀ y ∈ ys, PyData.strOk y = true) → PyData.strOk (Str.join a ys) = true
  | [], _ => by rw [strOk_iff]; intro q hq; cases hq
  | [y], h => h y (by simp)
  | y :: z :: r, h => by
    show PyData.strOk (y ++ a ++ Str.join a (z :: r)) = true
    exact strOk_app (strOk_app (h y (by simp)) ha) (strOk_joinS ha (ys := z :: r) fun q hq => h q (List.mem_cons_of_mem _ hq))
theorem strOk_join {a : Str} (ha : PyData.strOk a = true) {ys : List Str} (h : ∀ y ∈ ys, PyData.strOk y = true) : PyData.strOk (Txt.join a ys) = true := by
  rw [TL.join_eq]; exact strOk_joinS ha h
theorem m_join (hK : X.K = c.K) : MetS X c "str.join" [.bw] (.vw .fz) joinD := by
  refine ⟨_, mt_join, fun F H x vs dx ds d A Q s hx w e q => ?_⟩
  cases dx with
  | str z =>
    obtain ⟨hz, ok⟩ := hx.strV
    obtain ⟨dy, y, B, hds, hvs, hy⟩ : ∃ dy y B, ds = [dy] ∧ vs = [y] ∧ Own c.K F H .bw dy y B := view1 w
    subst hds
    subst hvs
    have fin : ∀ (p : Addr) (Bs : List D) (ws : List V), y = .ref p → IsL c.K F Bs ws → joinGo z Bs = some d → (SqL X.K H p ws ∨ SqT X.K H p ws) →
        ∃ a p, ∃ ys : List Str, x = .str a ∧ [y] = [.ref p] ∧ (SqL X.K H p (ys.map V.str) ∨ SqT X.K H p (ys.map V.str)) ∧ (ys.map (·.length)).sum + ys.length * a.length ≤ 16777216 ∧ Q (.str (Txt.join a ys)) H := fun p Bs ws ey hi ej hp => by
      unfold joinGo at ej
      cases e1 : strsD Bs with
      | none => rw [e1] at ej; cases ej
      | some ys =>
        rw [e1] at ej
        obtain ⟨h1, h2⟩ := strsD_is e1 hi
        by_cases g : (ys.map (·.length)).sum + ys.length * z.length ≤ 16777216
        · rw [show ((some ys).bind fun ys => if (ys.map (·.length)).sum + ys.length * z.length ≤ 16777216 then some (D.str (Txt.join z ys)) else none) = some (D.str (Txt.join z ys)) from if_pos g] at ej
          cases ej
          exact ⟨z, p, ys, hz, by rw [ey], by rw [h1] at hp; exact hp, g, q _ F H (Up.refl s) ⟨[], Own.of_is (Is.str (strOk_join ok h2))⟩⟩
        · rw [show ((some ys).bind fun ys => if (ys.map (·.length)).sum + ys.length * z.length ≤ 16777216 then some (D.str (Txt.join z ys)) else none) = none from if_neg g] at ej
          cases ej
    cases dy with
    | lst Bs =>
      obtain ⟨p, ws, e1, hp, hi⟩ := hy.lstF rfl s
      exact fin p Bs ws e1 hi e (.inl (SqL.of hp))
    | tup Bs =>
      obtain ⟨p, ws, e1, hp, hi, _⟩ := hy.tup s
      exact fin p Bs ws e1 hi e (.inr (SqT.of hp))
    | _ => simp [joinD] at e
  | _ => simp [joinD] at e
/-! ### zip -/
def zipL : List D → List D → List D
  | d :: ds, e :: es => .tup [d, e] :: zipL ds es
  | _, _ => []
theorem zipL_get : ∀ {ds es : List D} {i : Nat} {d : D}, (zipL ds es)[i]? = some d → ∃ x y, ds[i]? = some x ∧ es[i]? = some y ∧ d = .tup [x, y]
  | [], es, i, d, h => by simp [zipL] at h
  | x :: ds, [], i, d, h => by simp [zipL] at h
  | x :: ds, y :: es, 0, d, h => by simp [zipL] at h; exact ⟨x, y, rfl, rfl, h.symm⟩
  | x :: ds, y :: es, i + 1, d, h => by simpa using zipL_get (ds := ds) (es := es) (i := i) (by simpa [zipL] using h)
theorem zipL_len : ∀ {ds es : List D} {i : Nat}, (zipL ds es).length ≤ i → ds.length ≤ i ∨ es.length ≤ i
  | [], es, i, h => by simp
  | x :: ds, [], i, h => by simp
  | x :: ds, y :: es, 0, h => by simp [zipL] at h
  | x :: ds, y :: es, i + 1, h => by
    have := zipL_len (ds := ds) (es := es) (i := i) (by simpa [zipL] using h)
    simpa using this
def zipD (l : List D) : Option (List D) := match l with
  | [.lst ds, .lst es] => some (zipL ds es)
  | [.tup ds, .tup es] => some (zipL ds es)
  | _ => none
theorem i_zip {elts : List Expr} {kk : Nat} {tpos pz : Pos} (hK : X.K = c.K) (hg : Gl X "zip") (hm : X.mg "zip" = none) (ha : PA X [a, b] (tL c [.fz, .fz] fs))
    (hs : starEach [a, b] X.env = (false, eval a X.env) :: starEach [b] X.env) (hpl : (backTo pos (starEach [b] X.env)).any (·.1) = false) :
    PI X (.Tuple elts kk tpos) (.Call (.Name "zip" pz) [a, b] [] pos) (tI c .fz fun δ => match fs δ with
      | some (.ok l) => okL (zipD l)
      | r => r) := by
  refine PI.imp (RZ.pi_zipA hg hm ha hs hpl) fun σ H R h => ?_
  obtain ⟨F, δ, E, h⟩ := h
  change GI c .fz F H σ R (match fs δ with
      | some (.ok l) => okL (zipD l)
      | r => r) at h
  refine ⟨F, δ, E, ?_⟩
  cases e : fs δ with
  | none => rw [e] at h; exact h
  | some r =>
    rw [e] at h
    cases r with
    | ex x => exact h
    | ok l =>
      intro vs F1 H1 u w
      change GI c .fz F H σ R (okL (zipD l)) at h
      obtain ⟨d1, d2, v1, v2, A, B, rfl, rfl, o1, o2⟩ := view2 w
      have i1 := o1.is
      have i2 := o2.is
      have tpOk : ∀ {x y : D} {vx vy : V} {F2 H2 : Hp} {T : Addr}, Same F1 F2 → Same F2 H2 → H2 T = none → Is c.K F1 x vx → Is c.K F1 y vy → ∃ F', Up F2 H2 F' (upd H2 T (.tup [vx, vy])) ∧ Is c.K F' (.tup [x, y]) (.ref T) := fun {x y vx vy F2 H2 T} s1 s2 hT hx hy => by
        refine ⟨upd F2 T (.tup [vx, vy]), Up.newF s2 hT, ?_⟩
        have sF : Same F1 (upd F2 T (.tup [vx, vy])) := s1.trans (Up.newF (o := .tup [vx, vy]) s2 hT).ff
        simp only [Is]
        exact ⟨T, _, rfl, upd_same, vx, [vy], rfl, hx.mono sF, vy, [], rfl, hy.mono sF, rfl⟩
      cases d1 with
      | lst ds =>
        cases d2 with
        | lst es =>
          simp only [Is] at i1 i2
          obtain ⟨p, vs, rfl, hp, hi⟩ := i1
          obtain ⟨q, ws, rfl, hq, hj⟩ := i2
          have sq : ∀ F2 H2, Same F1 F2 → Same F2 H2 → SqL X.K H2 p vs ∧ SqL X.K H2 q ws := fun F2 H2 s1 s2 => ⟨SqL.of (s2 _ _ (s1 _ _ hp)), SqL.of (s2 _ _ (s1 _ _ hq))⟩
          obtain ⟨q1, q2⟩ := sq F1 H1 (Same.refl _) u.fh
          refine ⟨p, q, vs, ws, rfl, .inl ⟨q1, q2, h _ F1 H1 u fun F2 H2 s1 s2 _ i => ⟨fun d hd => ?_, fun hl => ?_⟩⟩⟩
          · obtain ⟨x, y, hx, hy, rfl⟩ := zipL_get hd
            obtain ⟨vx, e1, ix⟩ := hi.get hx
            obtain ⟨vy, e2, iy⟩ := hj.get hy
            obtain ⟨q3, q4⟩ := sq F2 H2 s1 s2
            refine ⟨⟨vs, ws, vx, vy, q3, q4, e1, e2⟩, fun x0 H' y0 => ?_⟩
            obtain ⟨T, x1, y1, rfl, hT, rfl, k1, k2⟩ := y0
            have := k1 vs q3
            rw [e1] at this; cases this
            have := k2 ws q4
            rw [e2] at this; cases this
            exact tpOk s1 s2 hT ix iy
          · obtain ⟨q3, q4⟩ := sq F2 H2 s1 s2
            exact ⟨vs, ws, q3, q4, by rw [hi.length, hj.length]; exact zipL_len hl⟩
        | _ => exact h.elim
      | tup ds =>
        cases d2 with
        | tup es =>
          simp only [Is] at i1 i2
          obtain ⟨p, vs, rfl, hp, hi⟩ := i1
          obtain ⟨q, ws, rfl, hq, hj⟩ := i2
          have sq : ∀ F2 H2, Same F1 F2 → Same F2 H2 → SqT X.K H2 p vs ∧ SqT X.K H2 q ws := fun F2 H2 s1 s2 => ⟨SqT.of (s2 _ _ (s1 _ _ hp)), SqT.of (s2 _ _ (s1 _ _ hq))⟩
          obtain ⟨q1, q2⟩ := sq F1 H1 (Same.refl _) u.fh
          refine ⟨p, q, vs, ws, rfl, .inr ⟨q1, q2, h _ F1 H1 u fun F2 H2 s1 s2 _ i => ⟨fun d hd => ?_, fun hl => ?_⟩⟩⟩
          · obtain ⟨x, y, hx, hy, rfl⟩ := zipL_get hd
            obtain ⟨vx, e1, ix⟩ := hi.get hx
            obtain ⟨vy, e2, iy⟩ := hj.get hy
            obtain ⟨q3, q4⟩ := sq F2 H2 s1 s2
            refine ⟨⟨vs, ws, vx, vy, q3, q4, e1, e2⟩, fun x0 H' y0 => ?_⟩
            obtain ⟨T, x1, y1, rfl, hT, rfl, k1, k2⟩ := y0
            have := k1 vs q3
            rw [e1] at this; cases this
            have := k2 ws q4
            rw [e2] at this; cases this
            exact tpOk s1 s2 hT ix iy
          · obtain ⟨q3, q4⟩ := sq F2 H2 s1 s2
            exact ⟨vs, ws, q3, q4, by rw [hi.length, hj.length]; exact zipL_len hl⟩
        | _ => exact h.elim
      | _ => exact h.elim
end Ev

set_option maxHeartbeats 4000000
/-! Ev, part M: y = [..]; names and callees bundled. -/
namespace Ev
open PySem PySem.Spec PyProof.Rows L2
variable {X : Cx} {c : Cp} {F G H F' G' H' : Hp} {σ : L2.St} {δ : Env} {a b e tg : Expr} {es : List Expr} {pos p : Pos} {x : Str} {ta tb tc ty rt : Ty} {oa ob oc o : OT} {os : List OT} {fa fb fc : Env → Option R} {fs : Env → Option RL} {st : Stmt} {ss : List Stmt}
def lcF (t : Tg) (tst : Option (Env → Option R)) (fe : Env → Option R) (fi : Env → Option RL) (own : List Nat) : Env → Option R := fun δ => bndL (fi δ) fun ds => okO (lcD t tst fe (unsetL δ own) ds)
theorem lc_rd {own : List Nat} {gm : Gm} {t : Tg} {tst : Option (Env → Option R)} {fe : Env → Option R} {fi : Env → Option RL} {ety : Ty} (ce : coe ety .fz = true) (hw : ∀ j ∈ tgSlots t, j ∈ own) {σ : L2.St} {H : Hp} {Q : VK}
    (h : tV c (.fr (.lst .fz)) (lcF t tst fe fi own) σ H Q) : tLc (tI c gm fi) (tG c.quiet t) (tTo c.quiet tst) (tV c.quiet ety fe) own σ H Q := by
  obtain ⟨F, δ, E, h⟩ := h
  change Gv c _ F H σ Q (bndL (fi δ) _) at h
  refine ⟨F, δ, E, ?_⟩
  cases e : fi δ with
  | none => rw [e] at h; exact h
  | some r =>
    rw [e] at h
    cases r with
    | ex x => exact h
    | ok ds =>
      intro J F1 H1 u w D0 hD
      change Gv c _ F H σ Q (okO (lcD t tst fe (unsetL δ own) ds)) at h
      obtain ⟨d, e1, q⟩ := h.okT
      unfold lcD at e1
      by_cases hz : ds.length < sizeLine
      · rw [if_pos hz] at e1
        cases e2 : lcGo t tst fe (unsetL δ own) ds with
        | none => rw [e2] at e1; cases e1
        | some es =>
          rw [e2] at e1
          cases e1
          refine lc_turns (E.up u) w hD hz ce hw e2 fun F3 H3 acc u3 f3 h3 i3 => q _ F3 H3 (u.trans u3) ⟨[D0], ?_, by simp, fun a ha => ?_⟩
          · simp only [Own]
            exact ⟨D0, acc, [], rfl, h3, OwnL.of_fz i3, rfl⟩
          · have z : a = D0 := by simpa using ha
            subst z
            exact ⟨u.hh.free hD, f3⟩
      · rw [if_neg hz] at e1; cases e1
/-! ### names, bundled -/
structure Nm (N : List Str) (sc : Scope) (i : Nat) (x : Str) : Prop where
  n : N[i]? = some x
  v : Vis sc x
  d : (x == ("__debug__" : Str)) = false
  cd : (x == ("__classdict__" : Str)) = false
def nmB (N : List Str) (sc : Scope) (i : Nat) (x : Str) : Bool := decide (N[i]? = some x) && (match sc.names.lookup x with
  | some .local => true | some .cell => true | some .free => true | _ => false) && !(x == ("__debug__" : Str)) && !(x == ("__classdict__" : Str))
theorem nm_by {N : List Str} {sc : Scope} {i : Nat} {x : Str} (h : nmB N sc i x = true) : Nm N sc i x := by
  unfold nmB at h
  simp only [Bool.and_eq_true, decide_eq_true_eq, Bool.not_eq_true'] at h
  obtain ⟨⟨⟨h1, h2⟩, h3⟩, h4⟩ := h
  refine ⟨h1, ?_, h3, h4⟩
  unfold Vis
  split at h2
  · rename_i e; exact .inl e
  · rename_i e; exact .inr (.inl e)
  · rename_i e; exact .inr (.inr e)
  · cases h2
structure Lo (N : List Str) (sc : Scope) (i : Nat) (x : Str) : Prop where
  nd : N.Nodup
  n : N[i]? = some x
  l : L2.Loc sc x
def loB (N : List Str) (sc : Scope) (i : Nat) (x : Str) : Bool := decide N.Nodup && decide (N[i]? = some x) && (match sc.names.lookup x with
  | some .local => true | some .cell => true | _ => false)
theorem lo_by {N : List Str} {sc : Scope} {i : Nat} {x : Str} (h : loB N sc i x = true) : Lo N sc i x := by
  unfold loB at h
  simp only [Bool.and_eq_true, decide_eq_true_eq] at h
  refine ⟨h.1.1, h.1.2, ?_⟩
  have h2 := h.2
  unfold L2.Loc
  split at h2
  · rename_i e; exact .inl e
  · rename_i e; exact .inr e
  · cases h2
theorem e_var {i : Nat} {k : Kd} (n : Nm X.N X.env.scope i x) (hk : c.Ks[i]? = some k) : PE X (.Name x pos) (tV c (.vw k.ot) (evVar i)) := s_var n.n n.v n.d n.cd hk
theorem e_set {i : Nat} {p' : Pos} (n : Lo X.N X.env.scope i x) (hk : c.Ks[i]? = some (.ve .fz)) (he : PE X e (tV c ta fa)) (ca : coe ta .fz = true) (hf : X.fn x = true ∨ X.env.scope.names.lookup x = some .local) (hs : swapsWith e (some (.Name x p')) pos.line X.env = pure false) :
    PS X (.Assign [.Name x p'] e pos) (tS c rt fun δ => bndS (fa δ) δ fun d => some (.nx (δ.set i (some d)))) := st_set n.nd n.n n.l hf hk he ca hs
theorem e_own {i : Nat} {p' : Pos} (n : Lo X.N X.env.scope i x) (hk : c.Ks[i]? = some (.ow o)) (he : PE X e (tV c (.fr o) fa)) (hf : X.fn x = true ∨ X.env.scope.names.lookup x = some .local) (hs : swapsWith e (some (.Name x p')) pos.line X.env = pure false) :
    PS X (.Assign [.Name x p'] e pos) (tS c rt fun δ => bndS (fa δ) δ fun d => some (.nx (δ.set i (some d)))) := st_own n.nd n.n n.l hf hk he rfl hs
theorem e_nm {i : Nat} (n : Lo X.N X.env.scope i x) (hk : c.Ks[i]? = some (.ve .fz)) (hf : X.fn x = true ∨ X.env.scope.names.lookup x = some .local) : PG X (.Name x pos) (tG c (.nm i)) := g_nm n.nd n.n n.l hf hk
section
variable {elt tgE iter : Expr} {ifs : List Expr} {scope : Scope} {own : List (Str × Nat)} {gm : Gm} {t : Tg} {tst : Option (Env → Option R)} {fe : Env → Option R} {fi : Env → Option RL} {ety : Ty} {y : Str} {py spos : Pos} {i : Nat}
theorem e_lc (hc : X.calm = true) (hN : X.N.Nodup) (hi : PI X tgE iter (tI c gm fi)) (ok : BlkOk X.N X.env.scope scope own)
    (hg : ∀ (s : Shared) (H : Hp) (C : Addr) (cl : List (Str × Addr)) (fp : List Addr), PG (X.blk s H scope (compEnvC scope cl C X.env) fp) tgE (tG c.quiet t))
    (ht : ∀ (s : Shared) (H : Hp) (C : Addr) (cl : List (Str × Addr)) (fp : List Addr), PTs (X.blk s H scope (compEnvC scope cl C X.env) fp) ifs (tTo c.quiet tst))
    (he : ∀ (s : Shared) (H : Hp) (C : Addr) (cl : List (Str × Addr)) (fp : List Addr), PE (X.blk s H scope (compEnvC scope cl C X.env) fp) elt (tV c.quiet ety fe))
    (ce : coe ety .fz = true) (hw : ∀ j ∈ tgSlots t, j ∈ own.map (·.2)) (hs : ∀ x, foldedSetIterable iter X.env x = pure x) :
    PE X (.ListComp elt [⟨tgE, iter, ifs, 0⟩] scope pos) (tV c (.fr (.lst .fz)) (lcF t tst fe fi (own.map (·.2)))) := s_lc hc hN hi ok hg ht he ce hw hs
theorem e_setLc (hc : X.calm = true) (n : Lo X.N X.env.scope i y) (hyl : X.env.scope.names.lookup y = some .local) (hi : PI X tgE iter (tI c gm fi)) (ok : BlkOk X.N X.env.scope scope own)
    (hg : ∀ (s : Shared) (H : Hp) (C : Addr) (cl : List (Str × Addr)) (fp : List Addr), PG (X.blk s H scope (compEnvC scope cl C X.env) fp) tgE (tG c.quiet t))
    (ht : ∀ (s : Shared) (H : Hp) (C : Addr) (cl : List (Str × Addr)) (fp : List Addr), PTs (X.blk s H scope (compEnvC scope cl C X.env) fp) ifs (tTo c.quiet tst))
    (he : ∀ (s : Shared) (H : Hp) (C : Addr) (cl : List (Str × Addr)) (fp : List Addr), PE (X.blk s H scope (compEnvC scope cl C X.env) fp) elt (tV c.quiet ety fe))
    (ce : coe ety .fz = true) (hw : ∀ j ∈ tgSlots t, j ∈ own.map (·.2)) (hs : ∀ x, foldedSetIterable iter X.env x = pure x) (hsw : swapsWith (.ListComp elt [⟨tgE, iter, ifs, 0⟩] scope pos) (some (.Name y py)) spos.line X.env = pure true)
    (hk : c.Ks[i]? = some (.ve .fz)) : PS X (.Assign [.Name y py] (.ListComp elt [⟨tgE, iter, ifs, 0⟩] scope pos) spos) (tS c rt fun δ => bndS (lcF t tst fe fi (own.map (·.2)) δ) δ fun d => some (.nx (δ.set i (some d)))) := by
  refine PS.imp (ps_setLc hc n.nd n.n hyl hsw hi ok hg ht he hs) fun D σ H h => ?_
  obtain ⟨F, δ, E, h⟩ := h
  refine lc_rd ce hw (tV.goS (oa := .fz) rfl E h fun d v F1 H1 u1 E1 ⟨A, hx⟩ h1 => ?_)
  exact Gs.nx h1 (EnvOk.setVe E1 hk hx.is)
theorem e_ownLc (hc : X.calm = true) (n : Lo X.N X.env.scope i y) (hyl : X.env.scope.names.lookup y = some .local) (hi : PI X tgE iter (tI c gm fi)) (ok : BlkOk X.N X.env.scope scope own)
    (hg : ∀ (s : Shared) (H : Hp) (C : Addr) (cl : List (Str × Addr)) (fp : List Addr), PG (X.blk s H scope (compEnvC scope cl C X.env) fp) tgE (tG c.quiet t))
    (ht : ∀ (s : Shared) (H : Hp) (C : Addr) (cl : List (Str × Addr)) (fp : List Addr), PTs (X.blk s H scope (compEnvC scope cl C X.env) fp) ifs (tTo c.quiet tst))
    (he : ∀ (s : Shared) (H : Hp) (C : Addr) (cl : List (Str × Addr)) (fp : List Addr), PE (X.blk s H scope (compEnvC scope cl C X.env) fp) elt (tV c.quiet ety fe))
    (ce : coe ety .fz = true) (hw : ∀ j ∈ tgSlots t, j ∈ own.map (·.2)) (hs : ∀ x, foldedSetIterable iter X.env x = pure x) (hsw : swapsWith (.ListComp elt [⟨tgE, iter, ifs, 0⟩] scope pos) (some (.Name y py)) spos.line X.env = pure true)
    (hk : c.Ks[i]? = some (.ow (.lst .fz))) : PS X (.Assign [.Name y py] (.ListComp elt [⟨tgE, iter, ifs, 0⟩] scope pos) spos) (tS c rt fun δ => bndS (lcF t tst fe fi (own.map (·.2)) δ) δ fun d => some (.nx (δ.set i (some d)))) := by
  refine PS.imp (ps_setLc hc n.nd n.n hyl hsw hi ok hg ht he hs) fun D σ H h => ?_
  obtain ⟨F, δ, E, h⟩ := h
  refine lc_rd ce hw (tV.goP E h fun d v F1 H1 u1 E1 p h1 => ?_)
  obtain ⟨A, ow, nd, nn⟩ := p
  exact Gs.nx h1 (EnvOk.setOw E u1 hk ow nd nn)
end
/-! ### defs that may be called -/
structure Cal (P : Program) (w : World) (K : PySem.W.Frag) (mg : Str → Option Value) (base : Heap) (x : Str) (k : Nat) (sg : Sig) (φ : Fn) : Prop where
  ex : ∃ (f : Addr) (fd : FuncData) (ps : List Str), FnOk P w K mg base (L2.CX P w) k f fd ps (spE K sg φ) ∧ mg x = some (.ref f) ∧ PySem.W.keepIn K (.ref f) = true ∧ Binds K fd ps []
theorem e_call {k j : Nat} {sg : Sig} {φ : Fn} (C : Cal X.prog X.w X.K X.mg X.base x k sg φ) (hr : Room j X.A) (hj : k ≤ j) (hK : X.K = c.K) (hg : Gl X x) (tk : Takes X c.W) (ha : PA X (e :: es) (tL c sg.args fs)) (hdb : (x == ("__debug__" : Str)) = false)
    (he : starEach (e :: es) X.env = (false, eval e X.env) :: starEach es X.env) (hpl : (backTo pos (starEach es X.env)).any (·.1) = false) :
    PE X (.Call (.Name x p) (e :: es) [] pos) (tV c sg.ret fun δ => bndL (fs δ) φ) := s_call (k := k) ⟨C.ex⟩ hK (hr.mono hj) hg tk ha hdb he hpl
theorem takes_quiet {W : WX} (h : ∀ a b d e, ¬ W a b d e) : Takes X W := fun u s' x => by
  obtain ⟨a, B, sI, pins, σ, H, cls, d, _, _, _, _, _, _, _, _, w⟩ := x
  exact (h _ _ _ _ w).elim
end Ev

set_option maxHeartbeats 4000000
/-! Ev, part N: short words for what a program prints. -/
namespace Ev
open PySem PySem.Spec PyProof.Rows L2
variable {X : Cx} {c : Cp} {F G H F' G' H' : Hp} {σ : L2.St} {δ : Env} {a b e tg : Expr} {es : List Expr} {pos p : Pos} {x : Str} {ta tb tc ty rt : Ty} {oa ob oc o : OT} {os : List OT} {fa fb fc : Env → Option R} {fs : Env → Option RL} {st : Stmt} {ss : List Stmt}
/-! ### the functions -/
abbrev EF := Env → Option R
def fC (d : D) : EF := fun _ => some (.ok d)
def fBin (f : D → D → Option D) (fa fb : EF) : EF := fun δ => bnd (fa δ) fun x => bnd (fb δ) fun y => okO (f x y)
def fCmp (f : D → D → Option Bool) (fa fb : EF) : EF := fun δ => bnd (fa δ) fun x => bnd (fb δ) fun y => okB (f x y)
def fNot (fa : EF) : EF := fun δ => bndB (fa δ) fun b => some (.ok (.bl (!b)))
def fAnd (fa fb : EF) : EF := fun δ => bndB (fa δ) fun x => if x then fb δ else some (.ok (.bl false))
def fOr (fa fb : EF) : EF := fun δ => bndB (fa δ) fun x => if x then some (.ok (.bl true)) else fb δ
def fIf (fc fa fb : EF) : EF := fun δ => bndB (fc δ) fun x => if x then fa δ else fb δ
def fChain (f f' : D → D → Option Bool) (fa fb fc : EF) : EF := fun δ => bnd (fa δ) fun x => bnd (fb δ) fun y => bndB (okB (f x y)) fun k => if k then bnd (fc δ) fun z => okB (f' y z) else some (.ok (.bl false))
def fIx (fa fb : EF) : EF := fun δ => bnd (fa δ) fun x => bnd (fb δ) fun y => okO (ixD x y)
def fSl (fa : EF) (pl pu : Option EF) : EF := fun δ => bnd (fa δ) fun x => evP pl δ fun l => evP pu δ fun u => okO (slD x l u)
abbrev EL := Env → Option RL
def lNil : EL := fun _ => some (.ok [])
def lCons (fa : EF) (fs : EL) : EL := fun δ => consL (fa δ) (fs δ)
def fTup (fs : EL) : EF := fun δ => bndL (fs δ) fun ds => some (.ok (.tup ds))
def fLst (fs : EL) : EF := fun δ => bndL (fs δ) fun ds => some (.ok (.lst ds))
def fBi (g : List D → Option D) (fs : EL) : EF := fun δ => bndL (fs δ) fun ds => okO (g ds)
def fCall (φ : Fn) (fs : EL) : EF := fun δ => bndL (fs δ) φ
def fIsi (t : Tn) (fa : EF) : EF := fun δ => bnd (fa δ) fun d => okB (t.has d)
def fFld (f : Str) (fa : EF) : EF := fun δ => bnd (fa δ) fun d => okO (fldD f d)
def fM (T : String) (f : D → List D → Option D) (fa : EF) (fs : EL) : EF := fun δ => bnd (fa δ) fun x => if tyOk T x then bndL (fs δ) fun ds => okO (f x ds) else none
def iVal (fa : EF) : EL := fun δ => bndI (fa δ) fun d => okL (itemsD d)
def iRng1 (fa : EF) : EL := fun δ => bndI (fa δ) fun d => okL (rngF1 d)
def iRng2 (fa fb : EF) : EL := fun δ => bndI (fa δ) fun d => bndI (fb δ) fun d' => okL (rngF2 d d')
def iZip (fs : EL) : EL := fun δ => match fs δ with
  | some (.ok l) => okL (zipD l)
  | r => r
def sSet (i : Nat) (fa : EF) : So := fun δ => bndS (fa δ) δ fun d => some (.nx (δ.set i (some d)))
def sTup (t : Tg) (fa : EF) : So := fun δ => bndS (fa δ) δ fun d => (bindT t d δ).map .nx
def sRet (fa : EF) : So := fun δ => bndS (fa δ) δ fun d => some (.ret d δ)
def sRetOw (i : Nat) : So := fun δ => bndS (evVar i δ) δ fun d => some (.ret d (δ.set i none))
def sRetN : So := fun δ => some (.ret .non δ)
def sNx : So := fun δ => some (.nx δ)
def sBrk : So := fun δ => some (.brk δ)
def sCt : So := fun δ => some (.ct δ)
def sEx (fa : EF) : So := fun δ => bndS (fa δ) δ fun _ => some (.nx δ)
def sIf (fc : EF) (ga gb : So) : So := fun δ => bndSB (fc δ) δ fun b => if b then ga δ else gb δ
def sFor (t : Tg) (fi : EL) (g : So) : So := fun δ => bndSL (fi δ) δ fun ds => forGo t g ds δ
def sSeq (g k : So) : So := fun δ => seqO (g δ) k
def sFrz (i : Nat) (g : So) : So := fun δ => unsO i (g δ)
def sApp (i : Nat) (fa : EF) : So := fun δ => (lstAt δ i).bind fun _ => bndS (fa δ) δ fun d => appO i d δ
def op (p : Int → Int → Bool) : D → D → Option Bool := cmpI p
def pLt : Int → Int → Bool := fun i j => decide (i < j)
def pLe : Int → Int → Bool := fun i j => decide (i ≤ j)
def pGt : Int → Int → Bool := fun i j => decide (j < i)
def pGe : Int → Int → Bool := fun i j => decide (j ≤ i)
def neD (x y : D) : Option Bool := (eqD x y).map (!·)
def isnD (x y : D) : Option Bool := (isN x y).map (!·)
/-! ### constants -/
theorem e_int {i : Int} {j pos} : PE X (.Constant (.int i) j pos) (tV c (.vw .fz) (fC (.int i))) := s_c pe_int fun _ _ => by simp only [Is]
theorem e_str {z : Str} {j pos} (hz : PyData.strOk z = true) : PE X (.Constant (.str z) j pos) (tV c (.vw .fz) (fC (.str z))) := s_c pe_str fun _ _ => Is.str hz
theorem e_bl {b : Bool} {j pos} : PE X (.Constant (.bool b) j pos) (tV c (.vw .fz) (fC (.bl b))) := s_c pe_bl fun _ _ => by simp only [Is]
theorem e_non {j pos} : PE X (.Constant .none j pos) (tV c (.vw .fz) (fC .non)) := s_c pe_non fun _ _ => by simp only [Is]
theorem e_neg {i : Int} {j pos p2} : PE X (.UnaryOp .USub (.Constant (.int i) j p2) pos) (tV c (.vw .fz) (fC (.int (-i)))) := by
  refine PE.imp (pe_un un_neg pe_int) fun σ H Q h => ?_
  obtain ⟨F, δ, E, h⟩ := h
  exact ⟨i, rfl, h _ F H (Up.refl E.fh) ⟨[], Own.of_is (by simp only [Is])⟩⟩
theorem s_chainV {op op' : CmpOp} {e3 : Expr} {f f' : D → D → Option Bool} (ho : OpS X c (compareOp op) oa ob fun x y => (f x y).map D.bl) (ho' : OpS X c (compareOp op') ob oc fun x y => (f' x y).map D.bl)
    (ha : PE X a (tV c ta fa)) (hb : PE X b (tV c tb fb)) (h3 : PE X e3 (tV c tc fc)) (ca : coe ta oa = true) (cb : coe tb ob = true) (cc : coe tc oc = true)
    (hm : lastMarks [op, op'] [b, e3] = false) : PE X (.Compare a [op, op'] [b, e3] pos) (tV c (.vw .fz) (fChain f f' fa fb fc)) := by
  obtain ⟨r, hr, hf⟩ := ho
  obtain ⟨r', hr', hf'⟩ := ho'
  refine PE.imp (pe_chain hr hr' ha hb h3 hm) fun σ H Q h => ?_
  obtain ⟨F, δ, E, h⟩ := h
  refine tV.goV ca E h fun dx x F1 H1 u1 E1 hx h1 => ?_
  refine tV.goV cb E1 h1 fun dy y F2 H2 u2 E2 hy h2 => ?_
  obtain ⟨A, hx⟩ := hx
  obtain ⟨B, hy⟩ := hy
  cases e : f dx dy with
  | none => rw [e] at h2; exact h2.elim
  | some k =>
    rw [e] at h2
    refine hf F2 H2 x y dx dy (.bl k) A B _ u2.fh (hx.up u2) hy (by show (f dx dy).map D.bl = _; rw [e]; rfl) fun v F' H' u i => ?_
    simp only [Is] at i
    refine ⟨k, i, ?_⟩
    cases k with
    | false => exact h2 _ F' H' u ⟨[], Own.of_is (by simp only [Is])⟩
    | true =>
      have h3 : Gv c (.vw .fz) F2 H2 σ Q (bnd (fc δ) fun z => okB (f' dy z)) := h2
      refine tV.goV cc (E2.up u) (h3.up u) fun dz z F4 H4 u4 E4 hz h4 => ?_
      obtain ⟨C, hz⟩ := hz
      obtain ⟨k2, e2, q⟩ := h4.okB
      refine hf' F4 H4 y z dy dz (.bl k2) B C _ u4.fh (hy.up (u.trans u4)) hz (by show (f' dy dz).map D.bl = _; rw [e2]; rfl) fun v F' H' u i => ?_
      simp only [Is] at i
      rw [i]; exact q F' H' u
/-! ### a def's names -/
/-- a built-in name as it is seen from a block -/
theorem gl_by {X : Cx} {x : Str} (h : X.env.kindOf x = some .globalImplicit) : Gl X x := h
structure Bi (X : Cx) (x : Str) : Prop where
  g : Gl X x
  m : X.mg x = none
theorem e_bi {id : String} {g : List D → Option D} (B : Bi X x) (h : CallS X c (.builtin id) os ty g) (ha : PA X (e :: es) (tL c os fs)) (hv : bootBuiltins x = some (.builtin id)) (hn : x ≠ "__name__") (hdb : (x == ("__debug__" : Str)) = false)
    (he : starEach (e :: es) X.env = (false, eval e X.env) :: starEach es X.env) (hpl : (backTo pos (starEach es X.env)).any (·.1) = false) :
    PE X (.Call (.Name x p) (e :: es) [] pos) (tV c ty (fBi g fs)) := s_callB h B.g B.m hv ha hn hdb he hpl
theorem e_ty {T : String} {g : List D → Option D} (B : Bi X x) (h : CallS X c (.type T) os ty g) (ha : PA X (e :: es) (tL c os fs)) (hv : bootBuiltins x = some (.type T)) (hn : x ≠ "__name__") (hdb : (x == ("__debug__" : Str)) = false)
    (he : starEach (e :: es) X.env = (false, eval e X.env) :: starEach es X.env) (hpl : (backTo pos (starEach es X.env)).any (·.1) = false) :
    PE X (.Call (.Name x p) (e :: es) [] pos) (tV c ty (fBi g fs)) := s_callTy h B.g B.m hv ha hn hdb he hpl
theorem e_isi {t : Tn} {pi pt : Pos} {xt : Str} (B : Bi X "isinstance") (Bt : Bi X xt) (hK : X.K = c.K) (ha : PE X a (tV c ta fa)) (ca : coe ta .bw = true) (hvt : bootBuiltins xt = some (.type t.nm)) (hn2 : xt ≠ "__name__") (hdb2 : (xt == ("__debug__" : Str)) = false)
    (hs : starEach [a, .Name xt pt] X.env = (false, eval a X.env) :: starEach [.Name xt pt] X.env) :
    PE X (.Call (.Name "isinstance" pi) [a, .Name xt pt] [] pos) (tV c (.vw .fz) (fIsi t fa)) :=
  s_isi hK ha ca B.g B.m rfl Bt.g Bt.m hvt (by decide) (by decide) hn2 hdb2 hs
/-! ### the rules, by these words -/
section
variable {f : D → D → Option D} {h h' : D → D → Option Bool} {e3 : Expr} {rest : List Expr} {g k ga gb : So} {sa sb : List Stmt} {i : Nat} {t : Tg} {gm : Gm} {fi : EL} {p' : Pos}
theorem s_bin' {o : Operator} (ho : OpS X c (binaryOp o) oa ob f) (ha : PE X a (tV c ta fa)) (hb : PE X b (tV c tb fb)) (ca : coe ta oa = true) (cb : coe tb ob = true) : PE X (.BinOp a o b pos) (tV c (.vw .fz) (fBin f fa fb)) := s_bin ho ha hb ca cb
theorem s_cmp' {o : CmpOp} (ho : OpS X c (compareOp o) oa ob fun x y => (h x y).map D.bl) (ha : PE X a (tV c ta fa)) (hb : PE X b (tV c tb fb)) (ca : coe ta oa = true) (cb : coe tb ob = true) (hm : behindInMarks o b = false) : PE X (.Compare a [o] [b] pos) (tV c (.vw .fz) (fCmp h fa fb)) := s_cmp ho ha hb ca cb hm
theorem t_cmp' {o : CmpOp} (ho : OpS X c (compareOp o) oa ob fun x y => (h x y).map D.bl) (ha : PE X a (tV c ta fa)) (hb : PE X b (tV c tb fb)) (ca : coe ta oa = true) (cb : coe tb ob = true) (hm : behindInMarks o b = false) : PT X (.Compare a [o] [b] pos) (tT c (fCmp h fa fb)) := t_cmp ho ha hb ca cb hm
theorem s_in' {neg : Bool} {o : CmpOp} (eo : o = opIn neg) (hu : X.A.units + 65 < cLine) (hK : X.K = c.K) (ha : PE X a (tV c ta fa)) (hb : PE X b (tV c tb fb)) (ca : coe ta .bw = true) (cb : coe tb .bw = true) (hm : behindInMarks (opIn neg) b = false) : PE X (.Compare a [o] [b] pos) (tV c (.vw .fz) (fCmp (inN neg) fa fb)) := by subst eo; exact s_in hu hK ha hb ca cb hm
theorem t_in' {neg : Bool} {o : CmpOp} (eo : o = opIn neg) (hu : X.A.units + 65 < cLine) (hK : X.K = c.K) (ha : PE X a (tV c ta fa)) (hb : PE X b (tV c tb fb)) (ca : coe ta .bw = true) (cb : coe tb .bw = true) (hm : behindInMarks (opIn neg) b = false) : PT X (.Compare a [o] [b] pos) (tT c (fCmp (inN neg) fa fb)) := by subst eo; exact t_in hu hK ha hb ca cb hm
theorem t_not' (ha : PT X a (tT c fa)) : PT X (.UnaryOp .Not a pos) (tT c (fNot fa)) := t_not ha
theorem s_not' (ha : PE X a (tV c ta fa)) (ca : coe ta .fz = true) : PE X (.UnaryOp .Not a pos) (tV c (.vw .fz) (fNot fa)) := s_not ha ca
theorem w_and' (ha : PT X a (tT c fa)) (hb : PW X (.BoolOp .And (b :: rest) pos) (tT c fb)) : PW X (.BoolOp .And (a :: b :: rest) pos) (tT c (fAnd fa fb)) := w_and ha hb
theorem w_or' (ha : PT X a (tT c fa)) (hb : PW X (.BoolOp .Or (b :: rest) pos) (tT c fb)) : PW X (.BoolOp .Or (a :: b :: rest) pos) (tT c (fOr fa fb)) := w_or ha hb
theorem s_and' (ha : PE X a (tV c ta fa)) (ca : coe ta .fz = true) (hb : PE X (.BoolOp .And (b :: rest) pos) (tV c (.vw .fz) fb)) : PE X (.BoolOp .And (a :: b :: rest) pos) (tV c (.vw .fz) (fAnd fa fb)) := s_and ha ca hb
theorem s_or' (ha : PE X a (tV c ta fa)) (ca : coe ta .fz = true) (hb : PE X (.BoolOp .Or (b :: rest) pos) (tV c (.vw .fz) fb)) : PE X (.BoolOp .Or (a :: b :: rest) pos) (tV c (.vw .fz) (fOr fa fb)) := s_or ha ca hb
theorem s_ife' {t : Expr} (hc : PT X t (tT c fc)) (ha : PE X a (tV c ty fa)) (hb : PE X b (tV c ty fb)) : PE X (.IfExp t a b pos) (tV c ty (fIf fc fa fb)) := s_ife hc ha hb
theorem s_chain' {o1 o2 : CmpOp} (ho : OpS X c (compareOp o1) oa ob fun x y => (h x y).map D.bl) (ho' : OpS X c (compareOp o2) ob oc fun x y => (h' x y).map D.bl) (ha : PE X a (tV c ta fa)) (hb : PE X b (tV c tb fb)) (h3 : PE X e3 (tV c tc fc)) (ca : coe ta oa = true) (cb : coe tb ob = true) (cc : coe tc oc = true)
    (hm : lastMarks [o1, o2] [b, e3] = false) : PT X (.Compare a [o1, o2] [b, e3] pos) (tT c (fChain h h' fa fb fc)) := s_chain ho ho' ha hb h3 ca cb cc hm
theorem s_chainV' {o1 o2 : CmpOp} (ho : OpS X c (compareOp o1) oa ob fun x y => (h x y).map D.bl) (ho' : OpS X c (compareOp o2) ob oc fun x y => (h' x y).map D.bl) (ha : PE X a (tV c ta fa)) (hb : PE X b (tV c tb fb)) (h3 : PE X e3 (tV c tc fc)) (ca : coe ta oa = true) (cb : coe tb ob = true) (cc : coe tc oc = true)
    (hm : lastMarks [o1, o2] [b, e3] = false) : PE X (.Compare a [o1, o2] [b, e3] pos) (tV c (.vw .fz) (fChain h h' fa fb fc)) := s_chainV ho ho' ha hb h3 ca cb cc hm
theorem s_ix' (ha : PE X a (tV c (.vw o) fa)) (hb : PE X b (tV c tb fb)) (cb : coe tb .fz = true) (hs : PlainIx b) (hn : NoSl b) (hu : X.A.units + 1 < cLine) (hK : X.K = c.K) (hy : elT o = .fz) : PE X (.Subscript a b pos) (tV c (.vw .fz) (fIx fa fb)) := by
  have := s_ix (pos := pos) ha hb rfl cb hs hn hu hK
  rw [hy] at this
  exact this
theorem s_sl' {lo hi : Option Expr} {p2 : Pos} {pl pu : Option (Ty × EF)} {ql qu : Option EF} (el : pl.map (·.2) = ql) (eu : pu.map (·.2) = qu) (ha : PE X a (tV c (.vw o) fa)) (hl : PO X lo (tP c pl)) (hu : PO X hi (tP c pu)) (ho : elO o = true)
    (cl : ∀ q, pl = some q → Ev.coe q.1 .fz = true) (cu : ∀ q, pu = some q → Ev.coe q.1 .fz = true) : PE X (.Subscript a (.Slice lo hi none p2) pos) (tV c (.vw .fz) (fSl fa ql qu)) := by subst el; subst eu; exact s_sl ha hl hu rfl ho cl cu
theorem a_nil' : PA X [] (tL c [] lNil) := a_nil
theorem a_cons' (he : PE X e (tV c ta fa)) (hr : PA X es (tL c os fs)) (ca : coe ta o = true) (hs : starEach (e :: es) X.env = (false, eval e X.env) :: starEach es X.env) : PA X (e :: es) (tL c (o :: os) (lCons fa fs)) := a_cons he hr ca hs
theorem s_tup' {k : Nat} (he : PA X es (tL c os fs)) (hf : ∀ o ∈ os, o = .fz) (hl : os.length ≤ 1000) : PE X (.Tuple es k pos) (tV c (.vw .fz) (fTup fs)) := s_tup he hf hl
theorem s_lst' (he : PA X es (tL c os fs)) (hf : ∀ o ∈ os, o = .fz) (hl : os.length ≤ 1000) : PE X (.List es pos) (tV c (.fr (.lst .fz)) (fLst fs)) := s_lst he hf hl
theorem s_fld' {f : Str} (hK : X.K = c.K) (hc : ∀ i, f ∈ (clsT i).fields → ClsOk c.K i) (ha : PE X a (tV c ta fa)) (ca : coe ta .fz = true) (hb : attributeBase a f X.env (eval a X.env) = eval a X.env) : PE X (.Attribute a f pos) (tV c (.vw .fz) (fFld f fa)) := s_fld hK hc ha ca hb
theorem e_call' {k j : Nat} {sg : Sig} {φ : Fn} (C : Cal X.prog X.w X.K X.mg X.base x k sg φ) (hr : Room j X.A) (hj : k ≤ j) (hK : X.K = c.K) (hg : Gl X x) (tk : Takes X c.W) (ha : PA X (e :: es) (tL c sg.args fs)) (hdb : (x == ("__debug__" : Str)) = false)
    (he : starEach (e :: es) X.env = (false, eval e X.env) :: starEach es X.env) (hpl : (backTo pos (starEach es X.env)).any (·.1) = false) (hty : sg.ret = ty) : PE X (.Call (.Name x p) (e :: es) [] pos) (tV c ty (fCall φ fs)) := by subst hty; exact e_call C hr hj hK hg tk ha hdb he hpl
theorem s_m' {T id : String} {name : Str} {apos cpos : Pos} {f : D → List D → Option D} (hK : X.K = c.K) (h : MetS X c id os ty f) (pa : PlainAttrs T) (slot : Slot T name id) (hty : typeOf (.builtin id) = pure (.type "method_descriptor"))
    (ha : PE X a (tV c ta fa)) (ca : coe ta .bw = true) (hb : PA X (e :: es) (tL c os fs)) (hbase : attributeBase a name X.env (eval a X.env) = eval a X.env)
    (hfew : ((backTo cpos (starEach (e :: es) X.env)).all (fun x => !x.1) && (backToKw cpos (keywordEach [] X.env)).all (fun x => x.1.isSome)
      && decide ((e :: es).length + ([] : List Keyword).length + (if ([] : List Keyword).isEmpty then 0 else 1) < 30)) = true)
    (hline : (apos.endLine == cpos.line) = true) (hs : starEach (e :: es) X.env = (false, eval e X.env) :: starEach es X.env) (hplain : (backTo cpos (starEach es X.env)).any (·.1) = false) :
    PE X (.Call (.Attribute a name apos) (e :: es) [] cpos) (tV c ty (fM T f fa fs)) := s_m hK h pa slot hty ha ca hb hbase hfew hline hs hplain
theorem i_val' (hK : X.K = c.K) (ha : PE X e (tV c (.vw o) fa)) (ho : elO o = true) (hg : gmOf (.vw o) = gm) : PI X tg e (tI c gm (iVal fa)) := by subst hg; exact i_val hK ha ho
theorem i_rng1' {pr : Pos} (ha : PE X a (tV c ta fa)) (ca : coe ta .bw = true) (hg : Gl X "range") (hm : X.mg "range" = none) (hs : starEach [a] X.env = [(false, eval a X.env)]) : PI X tg (.Call (.Name "range" pr) [a] [] pos) (tI c .fz (iRng1 fa)) := i_rng1 ha ca hg hm hs
theorem i_rng2' {pr : Pos} (ha : PE X a (tV c ta fa)) (hb : PE X b (tV c tb fb)) (ca : coe ta .bw = true) (cb : coe tb .bw = true) (hg : Gl X "range") (hm : X.mg "range" = none)
    (hs : starEach [a, b] X.env = [(false, eval a X.env), (false, eval b X.env)]) (hs2 : starEach [b] X.env = [(false, eval b X.env)]) : PI X tg (.Call (.Name "range" pr) [a, b] [] pos) (tI c .fz (iRng2 fa fb)) := i_rng2 ha hb ca cb hg hm hs hs2
theorem i_zip' {elts : List Expr} {kk : Nat} {tpos pz : Pos} (hK : X.K = c.K) (hg : Gl X "zip") (hm : X.mg "zip" = none) (ha : PA X [a, b] (tL c [.fz, .fz] fs))
    (hs : starEach [a, b] X.env = (false, eval a X.env) :: starEach [b] X.env) (hpl : (backTo pos (starEach [b] X.env)).any (·.1) = false) : PI X (.Tuple elts kk tpos) (.Call (.Name "zip" pz) [a, b] [] pos) (tI c .fz (iZip fs)) := i_zip hK hg hm ha hs hpl
theorem e_set' (n : Lo X.N X.env.scope i x) (hk : c.Ks[i]? = some (.ve .fz)) (he : PE X e (tV c ta fa)) (ca : coe ta .fz = true) (hf : X.fn x = true ∨ X.env.scope.names.lookup x = some .local) (hs : swapsWith e (some (.Name x p')) pos.line X.env = pure false) :
    PS X (.Assign [.Name x p'] e pos) (tS c rt (sSet i fa)) := e_set n hk he ca hf hs
theorem e_own' (n : Lo X.N X.env.scope i x) (hk : c.Ks[i]? = some (.ow o)) (he : PE X e (tV c (.fr o) fa)) (hf : X.fn x = true ∨ X.env.scope.names.lookup x = some .local) (hs : swapsWith e (some (.Name x p')) pos.line X.env = pure false) :
    PS X (.Assign [.Name x p'] e pos) (tS c rt (sSet i fa)) := e_own n hk he hf hs
theorem st_tup' (hg : PG X tg (tG c t)) (he : PE X e (tV c ta fa)) (ca : coe ta .fz = true) (hs : swapsWithSole [tg] e pos.line X.env = pure false) (hw : swappedStores [tg] e X.env = pure none) (h1 : (assignEach [tg] X.env).map (·.2) = [assign tg X.env]) :
    PS X (.Assign [tg] e pos) (tS c rt (sTup t fa)) := st_tup hg he ca hs hw h1
theorem st_ret' (he : PE X e (tV c ta fa)) (ca : coe ta .fz = true) : PS X (.Return (some e) pos) (tS c (.vw .fz) (sRet fa)) := st_ret he ca
theorem st_retFr' (he : PE X e (tV c ta fa)) (ca : ta = .fr o) : PS X (.Return (some e) pos) (tS c (.fr o) (sRet fa)) := st_retFr he ca
theorem st_retOw' (n : Nm X.N X.env.scope i x) (hk : c.Ks[i]? = some (.ow o)) : PS X (.Return (some (.Name x p)) pos) (tS c (.fr o) (sRetOw i)) := st_retOw n.n n.v n.d n.cd hk
theorem st_retN' : PS X (.Return none pos) (tS c (.vw .fz) sRetN) := st_retN
theorem st_pass' : PS X (.Pass pos) (tS c rt sNx) := st_pass
theorem st_break' : PS X (.Break pos) (tS c rt sBrk) := st_break
theorem st_cont' : PS X (.Continue pos) (tS c rt sCt) := st_cont
theorem st_expr' (he : PE X e (tV c ta fa)) (hs : swapsWith e none pos.line X.env = pure false) : PS X (.Expr e pos) (tS c rt (sEx fa)) := st_expr he hs
theorem st_if' (hc : PT X e (tT c fc)) (ha : PSs X sa (tS c rt ga)) (hb : PSs X sb (tS c rt gb)) : PS X (.If e sa sb pos) (tS c rt (sIf fc ga gb)) := st_if hc ha hb
theorem st_for' {iter : Expr} {body : List Stmt} (hp : PassesOwn (model X.prog X.w) X.A X.env X.xe) (hc : X.calm = true) (hi : PI X tg iter (tI c gm fi)) (hg : PG X tg (tG c t)) (hb : PSs X body (tS c rt g))
    (hgm : gm ≠ .nw) (hs : ∀ x, foldedSetIterable iter X.env x = pure x) : PS X (.For tg iter body [] pos) (tS c rt (sFor t fi g)) := st_for hp hc hi hg hb hgm hs
theorem ss_nil' : PSs X [] (tS c rt sNx) := ss_nil
theorem ss_cons' (h1 : PS X st (tS c rt g)) (h2 : PSs X ss (tS c rt k)) : PSs X (st :: ss) (tS c rt (sSeq g k)) := ss_cons h1 h2
theorem ss_frz' (hk : c.Ks[i]? = some (.ow o)) (h : PSs X ss (tS (c.fz i) rt g)) : PSs X ss (tS c rt (sFrz i g)) := ss_frz hk h
theorem st_append' {apos cpos : Pos} (hK : X.K = c.K) (n : Nm X.N X.env.scope i x) (hk : c.Ks[i]? = some (.ow (.lst .fz))) (ha : PE X a (tV c ta fa)) (ca : coe ta .fz = true)
    (hbase : attributeBase (.Name x p) "append" X.env (eval (.Name x p) X.env) = eval (.Name x p) X.env)
    (hfew : ((backTo cpos (starEach [a] X.env)).all (fun x => !x.1) && (backToKw cpos (keywordEach [] X.env)).all (fun x => x.1.isSome) && decide ([a].length + ([] : List Keyword).length + (if ([] : List Keyword).isEmpty then 0 else 1) < 30)) = true)
    (hline : (apos.endLine == cpos.line) = true) (hs : starEach [a] X.env = (false, eval a X.env) :: starEach [] X.env) (hplain : (backTo cpos (starEach [] X.env)).any (·.1) = false)
    (hsw : swapsWith (.Call (.Attribute (.Name x p) "append" apos) [a] [] cpos) none pos.line X.env = pure false) :
    PS X (.Expr (.Call (.Attribute (.Name x p) "append" apos) [a] [] cpos) pos) (tS c rt (sApp i fa)) := st_append hK n.n n.v n.d n.cd hk ha ca hbase hfew hline hs hplain hsw
section
variable {elt tgE iter : Expr} {ifs : List Expr} {scope : Scope} {own : List (Str × Nat)} {tst : Option EF} {fe : EF} {ety : Ty} {y : Str} {py spos : Pos} {ow : List Nat}
theorem e_lc' (hc : X.calm = true) (hN : X.N.Nodup) (hi : PI X tgE iter (tI c gm fi)) (ok : BlkOk X.N X.env.scope scope own)
    (hg : ∀ (s : Shared) (H : Hp) (C : Addr) (cl : List (Str × Addr)) (fp : List Addr), PG (X.blk s H scope (compEnvC scope cl C X.env) fp) tgE (tG c.quiet t))
    (ht : ∀ (s : Shared) (H : Hp) (C : Addr) (cl : List (Str × Addr)) (fp : List Addr), PTs (X.blk s H scope (compEnvC scope cl C X.env) fp) ifs (tTo c.quiet tst))
    (he : ∀ (s : Shared) (H : Hp) (C : Addr) (cl : List (Str × Addr)) (fp : List Addr), PE (X.blk s H scope (compEnvC scope cl C X.env) fp) elt (tV c.quiet ety fe))
    (ce : coe ety .fz = true) (hw : ∀ j ∈ tgSlots t, j ∈ own.map (·.2)) (hs : ∀ x, foldedSetIterable iter X.env x = pure x) (ho : own.map (·.2) = ow) :
    PE X (.ListComp elt [⟨tgE, iter, ifs, 0⟩] scope pos) (tV c (.fr (.lst .fz)) (lcF t tst fe fi ow)) := by subst ho; exact e_lc hc hN hi ok hg ht he ce hw hs
theorem e_setLc' (hc : X.calm = true) (n : Lo X.N X.env.scope i y) (hyl : X.env.scope.names.lookup y = some .local) (hi : PI X tgE iter (tI c gm fi)) (ok : BlkOk X.N X.env.scope scope own)
    (hg : ∀ (s : Shared) (H : Hp) (C : Addr) (cl : List (Str × Addr)) (fp : List Addr), PG (X.blk s H scope (compEnvC scope cl C X.env) fp) tgE (tG c.quiet t))
    (ht : ∀ (s : Shared) (H : Hp) (C : Addr) (cl : List (Str × Addr)) (fp : List Addr), PTs (X.blk s H scope (compEnvC scope cl C X.env) fp) ifs (tTo c.quiet tst))
    (he : ∀ (s : Shared) (H : Hp) (C : Addr) (cl : List (Str × Addr)) (fp : List Addr), PE (X.blk s H scope (compEnvC scope cl C X.env) fp) elt (tV c.quiet ety fe))
    (ce : coe ety .fz = true) (hw : ∀ j ∈ tgSlots t, j ∈ own.map (·.2)) (hs : ∀ x, foldedSetIterable iter X.env x = pure x) (ho : own.map (·.2) = ow)
    (hsw : swapsWith (.ListComp elt [⟨tgE, iter, ifs, 0⟩] scope pos) (some (.Name y py)) spos.line X.env = pure true)
    (hk : c.Ks[i]? = some (.ve .fz)) : PS X (.Assign [.Name y py] (.ListComp elt [⟨tgE, iter, ifs, 0⟩] scope pos) spos) (tS c rt (sSet i (lcF t tst fe fi ow))) := by subst ho; exact e_setLc hc n hyl hi ok hg ht he ce hw hs hsw hk
theorem e_ownLc' (hc : X.calm = true) (n : Lo X.N X.env.scope i y) (hyl : X.env.scope.names.lookup y = some .local) (hi : PI X tgE iter (tI c gm fi)) (ok : BlkOk X.N X.env.scope scope own)
    (hg : ∀ (s : Shared) (H : Hp) (C : Addr) (cl : List (Str × Addr)) (fp : List Addr), PG (X.blk s H scope (compEnvC scope cl C X.env) fp) tgE (tG c.quiet t))
    (ht : ∀ (s : Shared) (H : Hp) (C : Addr) (cl : List (Str × Addr)) (fp : List Addr), PTs (X.blk s H scope (compEnvC scope cl C X.env) fp) ifs (tTo c.quiet tst))
    (he : ∀ (s : Shared) (H : Hp) (C : Addr) (cl : List (Str × Addr)) (fp : List Addr), PE (X.blk s H scope (compEnvC scope cl C X.env) fp) elt (tV c.quiet ety fe))
    (ce : coe ety .fz = true) (hw : ∀ j ∈ tgSlots t, j ∈ own.map (·.2)) (hs : ∀ x, foldedSetIterable iter X.env x = pure x) (ho : own.map (·.2) = ow)
    (hsw : swapsWith (.ListComp elt [⟨tgE, iter, ifs, 0⟩] scope pos) (some (.Name y py)) spos.line X.env = pure true)
    (hk : c.Ks[i]? = some (.ow (.lst .fz))) : PS X (.Assign [.Name y py] (.ListComp elt [⟨tgE, iter, ifs, 0⟩] scope pos) spos) (tS c rt (sSet i (lcF t tst fe fi ow))) := by subst ho; exact e_ownLc hc n hyl hi ok hg ht he ce hw hs hsw hk
theorem p_one {X' : Cx} (h : PT X' a (tT c fa)) : PTs X' [a] (tTo c (some fa)) := pts_one h
theorem p_nil {X' : Cx} : PTs X' [] (tTo c none) := pts_nil
end
end
end Ev

set_option maxHeartbeats 4000000
/-! Ev, part O: the head's hook with facts of one's own; the end of a law. -/
namespace Ev
open PySem PySem.Spec PyProof.Rows L2
abbrev AlE : Type := He.AlD × Bool
def obsE (fa : List He.Fa) (fn : List He.DefD) (ex : PySem.W.Frag → Bool) (K : PySem.W.Frag) : AlE := (He.obsD fa fn K, ex K)
def SaysE (fa : List He.Fa) (fn : List He.DefD) (ex : PySem.W.Frag → Bool) (K : PySem.W.Frag) : Prop := obsE fa fn ex K = (He.valD fn, true)
def obsEG (n : Nat) (fa : List He.Fa) (fn : List He.DefD) (ex : PySem.W.Frag → Bool) (g : Addr → Option Obj) : AlE := obsE fa fn ex (He.frG g (PySem.cStatics :: He.asD g n))
def hookE (n : Nat) (fa : List He.Fa) (fn : List He.DefD) (ex : PySem.W.Frag → Bool) : PySem.W.Hook where
  α := AlE
  obs := fun s => obsEG n fa fn ex s.heap.get?
  val := fun _ => (He.valD fn, true)
  says := fun _ h => ∃ K : PySem.W.Frag, K.In h ∧ SaysE fa fn ex K
  of := fun _ _ e => ⟨_, He.frG_in, e⟩
  keeps := fun _ _ _ ⟨K, hK, c⟩ k => ⟨K, PySem.W.Frag.In.keeps hK k, c⟩
theorem obsEG_eq {n : Nat} {fa : List He.Fa} {fn : List He.DefD} {ex : PySem.W.Frag → Bool} {g : Addr → Option Obj} {s : Shared} (h : ∀ a, g a = s.heap.get? a) : obsEG n fa fn ex g = (hookE n fa fn ex).obs s := by
  have e : g = s.heap.get? := funext h
  rw [e] <;> rfl
theorem SaysE.d {fa : List He.Fa} {fn : List He.DefD} {ex : PySem.W.Frag → Bool} {K : PySem.W.Frag} (c : SaysE fa fn ex K) : He.SaysD fa fn K := congrArg (fun z : AlE => z.1) c
theorem SaysE.x {fa : List He.Fa} {fn : List He.DefD} {ex : PySem.W.Frag → Bool} {K : PySem.W.Frag} (c : SaysE fa fn ex K) : ex K = true := congrArg (fun z : AlE => z.2) c
/-- a law: its script walks to True -/
theorem law_end {K : PySem.W.Frag} {H : Hp} {a : Addr} {ns : List Int} {φ : Fn} (hS : SqL K H a (ns.map V.int)) (h : φ [.lck ns] = some (.ok (.bl true))) :
    spE K ⟨[.fz], .vw .fz⟩ φ [.ref a] H (fun v _ => v = .bl true) fun _ _ _ => False := by
  refine ⟨H, [.lck ns], Same.refl _, ⟨.ref a, [], rfl, ⟨[], Own.of_is ?_⟩, by simp only [ViewL]⟩, ?_⟩
  · simp only [Is]
    exact ⟨a, rfl, hS⟩
  · rw [h]
    intro v F' H' _ p
    obtain ⟨A, p⟩ := p
    have := p.is
    simpa only [Is] using this
theorem law_cx {P : Program} {w : World} (H : Hp) (s : Shared) (e : Value) (s' : Shared) : L2.CX P w [] H s (fun _ _ _ => False) e s' → False := by
  rintro ⟨a, B, H', cls, d, _, _, _, _, _, _, _, h⟩
  exact h
theorem walk_ofW {l : PySem.W.OpenLaw} {n k : Nat} {q : Program} {loose : List Str} {XP : (Str → Option Value) → Heap → Prop} {YP : World → Heap → Prop} {d : DefRec} {x : Str}
    (hn : l.most = some n) (hn2 : n ≤ sizeLine) (hdf : d.params.defaults = []) (hr : Room k callerA)
    (F : ∀ (w : World) (mg : Str → Option Value) (fa : Addr) (h : Heap), YP w h → h.Ns mainGlobals mg → mg d.name = some (.ref fa) →
      ∃ (K : PySem.W.Frag) (fd : FuncData) (sp : Sp), K.In h ∧ (∀ (s : Shared) (u : Value), BindsTo s fd ⟨[u], []⟩ [(x, u)]) ∧
        (∀ (H : Hp) (a : Addr) (ns : List Int), ns.length ≤ n → SqL K H a (ns.map V.int) → sp [.ref a] H (fun v _ => v = .bl true) fun _ _ _ => False) ∧
        ∀ base : Heap, K.In base → base.Ns mainGlobals mg → FnOk l.prog w K mg base (L2.CX l.prog w) k fa fd [x] sp) :
    PySem.W.WalkO q loose XP YP l.row.toRowW d [] (fun f vs => PySem.call f vs) := by
  refine Att.attach_call hn hdf fun w s₀ s₁ mg mb fa o pm cd doc a vs ns G Y ho hd hcd hmg hobj hints hlen hg => ?_
  obtain ⟨K, fd, sp, KX, hb, hsp, hF⟩ := F w mg fa _ Y G.T.g hmg
  exact law_call KX G.T.g G.T.b G.T.builtins G.T.nolimit hg hobj hints (Nat.le_trans hlen hn2) hr hF hb (fun H hO hS => hsp H a ns hlen hS) fun H e s' => law_cx H s₁ e s'
end Ev

set_option maxHeartbeats 4000000
/-! Ev, part P: fields of an object that a name owns. -/
namespace Ev
open PySem PySem.Spec PyProof.Rows L2
variable {X : Cx} {c : Cp} {F G H F' G' H' : Hp} {σ : L2.St} {δ : Env} {a b e tg : Expr} {es : List Expr} {pos p : Pos} {x : Str} {ta tb tc ty rt : Ty} {oa ob oc o : OT} {os : List OT} {fa fb fc : Env → Option R} {fs : Env → Option RL} {st : Stmt} {ss : List Stmt}
/-- one field of the objects' fields, taken out and put back -/
theorem OwnS.at {K : PySem.W.Frag} : ∀ {os : List OT} {ds : List D} {vs : List V} {B : List Addr} {j : Nat} {o : OT} {d : D}, OwnS K F H os ds vs B → B.Nodup → os[j]? = some o → ds[j]? = some d →
    ∃ v Aj, vs[j]? = some v ∧ Own K F H o d v Aj ∧ (∀ a ∈ Aj, a ∈ B) ∧ Aj.Nodup ∧ ∀ {F' H' : Hp} {d' : D} {v' : V} {Aj' : List Addr}, Same F F' → (∀ a ∈ B, a ∉ Aj → H' a = H a) → Own K F' H' o d' v' Aj' → Aj'.Nodup → (∀ a ∈ Aj', a ∈ Aj ∨ a ∉ B) →
      ∃ B', OwnS K F' H' os (ds.set j d') (vs.set j v') B' ∧ B'.Nodup ∧ ∀ a ∈ B', (a ∈ B ∧ a ∉ Aj) ∨ a ∈ Aj'
  | os, [], vs, B, j, o, d, h, nd, e1, e2 => by simp at e2
  | [], d1 :: ds, vs, B, j, o, d, h, nd, e1, e2 => by simp at e1
  | o1 :: os, d1 :: ds, vs, B, 0, o, d, h, nd, e1, e2 => by
    cases e1; cases e2
    simp only [OwnS] at h
    obtain ⟨v, r, A1, A2, rfl, h1, h2, rfl⟩ := h
    obtain ⟨n1, n2, n3⟩ := List.nodup_append.mp nd
    refine ⟨v, A1, rfl, h1, fun a ha => List.mem_append_left _ ha, n1, fun {F' H' d' v' Aj'} s k ow nj inj => ⟨Aj' ++ A2, ?_, ?_, fun a ha => ?_⟩⟩
    · exact ⟨v', r, Aj', A2, rfl, ow, OwnS.frame s h2 fun b hb => k b (List.mem_append_right _ hb) fun hb1 => n3 b hb1 b hb rfl, rfl⟩
    · refine List.nodup_append.mpr ⟨nj, n2, fun a ha b hb e => ?_⟩
      subst e
      rcases inj a ha with q | q
      · exact n3 a q a hb rfl
      · exact q (List.mem_append_right _ hb)
    · rcases List.mem_append.mp ha with q | q
      · exact .inr q
      · exact .inl ⟨List.mem_append_right _ q, fun q1 => n3 a q1 a q rfl⟩
  | o1 :: os, d1 :: ds, vs, B, j + 1, o, d, h, nd, e1, e2 => by
    simp only [OwnS] at h
    obtain ⟨v, r, A1, A2, rfl, h1, h2, rfl⟩ := h
    obtain ⟨n1, n2, n3⟩ := List.nodup_append.mp nd
    obtain ⟨w, Aj, e3, h3, sub, nj, put⟩ := OwnS.at (j := j) h2 n2 (by simpa using e1) (by simpa using e2)
    refine ⟨w, Aj, by simpa using e3, h3, fun a ha => List.mem_append_right _ (sub a ha), nj, fun {F' H' d' v' Aj'} s k ow nj' inj => ?_⟩
    obtain ⟨B', o2, nB, iB⟩ := put s (fun a ha na => k a (List.mem_append_right _ ha) na) ow nj' fun a ha => (inj a ha).imp id fun q q2 => q (List.mem_append_right _ q2)
    have dis : ∀ a ∈ A1, a ∉ B' := fun a ha hb => by
      rcases iB a hb with q | q
      · exact n3 a ha a q.1 rfl
      · rcases inj a q with z | z
        · exact n3 a ha a (sub a z) rfl
        · exact z (List.mem_append_left _ ha)
    refine ⟨A1 ++ B', ?_, List.nodup_append.mpr ⟨n1, nB, fun a ha b hb e => dis a ha (e ▸ hb)⟩, fun a ha => ?_⟩
    · exact ⟨v, _, A1, B', rfl, Own.frame s h1 fun b hb => k b (List.mem_append_left _ hb) fun q => n3 b hb b (sub b q) rfl, o2, rfl⟩
    · rcases List.mem_append.mp ha with q | q
      · exact .inl ⟨List.mem_append_left _ q, fun z => n3 a q a (sub a z) rfl⟩
      · rcases iB a q with z | z
        · exact .inl ⟨List.mem_append_right _ z.1, z.2⟩
        · exact .inr z
/-- a name that owns (an argument's object: pn) -/
def OwnK (Ks : List Kd) (i : Nat) (o : OT) : Prop := Ks[i]? = some (.ow o) ∨ ∃ v, Ks[i]? = some (.pn o v)
/-- what a name owns, and its change (the footprint at hand) -/
theorem EnvOk.own {K : PySem.W.Frag} {Ks : List Kd} {F0 : Hp} (E : EnvOk K Ks F0 G F H σ δ) {i : Nat} {o : OT} {d : D} (hk : OwnK Ks i o) (hd : δ[i]? = some (some d)) :
    ∃ v A, σ[i]? = some (some v) ∧ Own K F H o d v A ∧ A.Nodup ∧ (∀ a ∈ A, F a = none ∧ G a = none) ∧ ∀ {F' H' : Hp} {d' : D} {A' : List Addr}, Own K F' H' o d' v A' → A'.Nodup → Same F F' → Same F' H' → (∀ a, a ∉ A → F a = none → H a ≠ none → F' a = none) → (∀ a ∈ A', a ∈ A ∨ H a = none) →
      (∀ a ∈ A', F' a = none) → (∀ a, a ∉ A → H a ≠ none → H' a = H a) → EnvOk K Ks F0 G F' H' σ (δ.set i (some d')) := by
  obtain ⟨As, h1, h2, h3, h4⟩ := EnvOk.sl E
  obtain ⟨k0, hk0, v, hv, s0, s, mk⟩ : ∃ k0, Ks[i]? = some k0 ∧ ∃ v, σ[i]? = some (some v) ∧ SlotOk K F G H k0 d v (As i) ∧ Own K F H o d v (As i) ∧ ∀ {F' H' : Hp} {d' : D} {A' : List Addr}, Own K F' H' o d' v A' → SlotOk K F' G H' k0 d' v A' := by
    rcases hk with hk | ⟨v0, hk⟩
    · obtain ⟨v, hv, s⟩ := h1 i _ d hk hd
      exact ⟨_, hk, v, hv, s, s, fun h => h⟩
    · obtain ⟨v, hv, s⟩ := h1 i _ d hk hd
      exact ⟨_, hk, v, hv, s, s.2, fun h => ⟨s.1, h⟩⟩
  have hk := hk0
  have hi : i < Ks.length := (List.getElem?_eq_some_iff.mp hk).1
  refine ⟨v, As i, hv, s, h2 i, fun a ha => ⟨(h4 i a ha).1, (h4 i a ha).2.1⟩, fun {F' H' d' A'} o1 o2 ff fh fr inA nf keep => ?_⟩
  have keepG : ∀ a, G a ≠ none → H' a = G a := fun a g => by
    rw [keep a (fun ha => g (h4 i a ha).2.1) (Same.some E.gh g)]; exact Same.eq E.gh g
  refine ⟨E.ls, by rw [List.length_set]; exact E.ld, fun a u g => ?_, E.f0.trans ff, fh, fun a e g => fr a (fun ha => g (h4 i a ha).2.1) (E.fr a e g) (Same.some E.gh g), fun j => if j = i then A' else As j, fun j k e e1 e2 => ?_, fun j => ?_, fun j l a ha hb => ?_, fun j a ha => ?_⟩
  · rw [keepG a (by rw [g]; simp)]; exact g
  · rcases getElem?_set_or e2 with ⟨rfl, e3⟩ | ⟨ne, e3⟩
    · cases e3
      rw [hk] at e1; cases e1
      refine ⟨v, hv, ?_⟩
      have := mk o1
      show SlotOk K F' G H' k0 d' v (if j = j then A' else As j)
      rw [if_pos rfl]; exact this
    · obtain ⟨w, e4, s⟩ := h1 j k e e1 e3
      refine ⟨w, e4, ?_⟩
      cases k with
      | ve o =>
        obtain ⟨B, s⟩ := s
        exact ⟨B, s.frame ff fun _ _ => rfl⟩
      | rd o v0 =>
        obtain ⟨er, B, s⟩ := s
        exact ⟨er, B, s.frame ff fun _ _ => rfl⟩
      | ow o =>
        show Own K F' H' o e w (if j = i then A' else As j)
        rw [if_neg ne]
        exact Own.frame ff (show Own K F H o e w (As j) from s) fun a ha => keep a (fun hb => ne (h3 j i a ha hb)) (h4 j a ha).2.2
      | pn o v0 =>
        refine ⟨s.1, ?_⟩
        show Own K F' H' o e w (if j = i then A' else As j)
        rw [if_neg ne]
        exact Own.frame ff (show Own K F H o e w (As j) from s.2) fun a ha => keep a (fun hb => ne (h3 j i a ha hb)) (h4 j a ha).2.2
  · show (if j = i then A' else As j).Nodup
    split
    · exact o2
    · exact h2 j
  · have key : ∀ l a, l ≠ i → a ∈ As l → a ∈ A' → False := fun l a ne ha hb => by
      rcases inA a hb with z | z
      · exact ne (h3 l i a ha z)
      · exact (h4 l a ha).2.2 z
    have ha' : a ∈ (if j = i then A' else As j) := ha
    have hb' : a ∈ (if l = i then A' else As l) := hb
    by_cases e1 : j = i <;> by_cases e2 : l = i
    · rw [e1, e2]
    · rw [if_pos e1] at ha'; rw [if_neg e2] at hb'; exact (key l a e2 hb' ha').elim
    · rw [if_neg e1] at ha'; rw [if_pos e2] at hb'; exact (key j a e1 ha' hb').elim
    · rw [if_neg e1] at ha'; rw [if_neg e2] at hb'; exact h3 j l a ha' hb'
  · have ha' : a ∈ (if j = i then A' else As j) := ha
    by_cases e1 : j = i
    · rw [if_pos e1] at ha'
      refine ⟨nf a ha', ?_, o1.there a ha'⟩
      rcases inA a ha' with z | z
      · exact (h4 i a z).2.1
      · cases q : G a with
        | none => rfl
        | some u => exact absurd (E.gh a u q) (by rw [z]; simp)
    · rw [if_neg e1] at ha'
      obtain ⟨x1, x2, x3⟩ := h4 j a ha'
      refine ⟨fr a (fun hb => e1 (h3 j i a ha' hb)) x1 x3, x2, ?_⟩
      rw [keep a (fun hb => e1 (h3 j i a ha' hb)) x3]; exact x3
/-- a name's object and one of its fields -/
theorem EnvOk.fld {K : PySem.W.Frag} {Ks : List Kd} {F0 : Hp} (E : EnvOk K Ks F0 G F H σ δ) {i j ci : Nat} {ds : List D} {d : D} (hk : OwnK Ks i (.ins os)) (hd : δ[i]? = some (some (.ins ci ds))) (ho : os[j]? = some o) (hj : ds[j]? = some d) :
    ∃ a dx vs v Aj, σ[i]? = some (some (.ref a)) ∧ H a = some (.ins (clsA K ci) dx ((clsT ci).fields.zip vs)) ∧ vs.length ≤ (clsT ci).fields.length ∧ vs[j]? = some v ∧ Own K F H o d v Aj ∧ a ∉ Aj ∧ (∀ b ∈ Aj, F b = none) ∧ F a = none ∧
      ∀ {F' H' : Hp} {d' : D} {v' : V} {Aj' : List Addr}, Same F F' → Same F' H' → (∀ b, F b = none → H b ≠ none → F' b = none) → (∀ b, b ∉ Aj → b ≠ a → H b ≠ none → H' b = H b) →
        H' a = some (.ins (clsA K ci) dx ((clsT ci).fields.zip (vs.set j v'))) → Own K F' H' o d' v' Aj' → Aj'.Nodup → (∀ b ∈ Aj', b ∈ Aj ∨ H b = none) → (∀ b ∈ Aj', F' b = none) →
        EnvOk K Ks F0 G F' H' σ (δ.set i (some (.ins ci (ds.set j d')))) := by
  obtain ⟨v0, A, e, s', ndA, hA, putA⟩ := EnvOk.own E hk hd
  simp only [Own] at s'
  obtain ⟨a, dx, vs, B, rfl, ha, hl, hS, rfl⟩ := s'
  obtain ⟨naB, nB⟩ := List.nodup_cons.mp ndA
  obtain ⟨v, Aj, ev, ow, sub, nj, put⟩ := hS.at nB ho hj
  refine ⟨a, dx, vs, v, Aj, e, ha, hl, ev, ow, fun q => naB (sub a q), fun b hb => (hA b (List.mem_cons_of_mem _ (sub b hb))).1, (hA a List.mem_cons_self).1, fun {F' H' d' v' Aj'} sF sH fr keep ha' ow' nj' inj nf => ?_⟩
  obtain ⟨B', o2, nB', iB⟩ := put sF (fun b hb nb => keep b nb (fun q => naB (q ▸ hb)) (hS.there b hb)) ow' nj' fun b hb => (inj b hb).imp id fun q z => hS.there b z q
  refine putA (A' := a :: B') ?_ (List.nodup_cons.mpr ⟨fun q => ?_, nB'⟩) sF sH (fun b _ => fr b) (fun b hb => ?_) (fun b hb => ?_) fun b nb hb => ?_
  · simp only [Own]
    exact ⟨a, dx, _, B', rfl, ha', by rw [List.length_set]; exact hl, o2, rfl⟩
  · rcases iB a q with z | z
    · exact naB z.1
    · rcases inj a z with w | w
      · exact naB (sub a w)
      · rw [ha] at w; cases w
  · rcases List.mem_cons.mp hb with q | q
    · exact .inl (by rw [q]; exact List.mem_cons_self)
    · rcases iB b q with z | z
      · exact .inl (List.mem_cons_of_mem _ z.1)
      · rcases inj b z with w | w
        · exact .inl (List.mem_cons_of_mem _ (sub b w))
        · exact .inr w
  · rcases List.mem_cons.mp hb with q | q
    · rw [q]; exact fr a (hA a List.mem_cons_self).1 (by rw [ha]; simp)
    · rcases iB b q with z | z
      · exact fr b (hA b (List.mem_cons_of_mem _ z.1)).1 (hS.there b z.1)
      · exact nf b z
  · exact keep b (fun q => nb (List.mem_cons_of_mem _ (sub b q))) (fun q => nb (by rw [q]; exact List.mem_cons_self)) hb
end Ev

set_option maxHeartbeats 4000000
/-! Ev, part Q: the fields of an object at hand: read, set, added to. -/
namespace Ev
open PySem PySem.Spec PyProof.Rows L2
variable {X : Cx} {c : Cp} {F G H F' G' H' : Hp} {σ : L2.St} {δ : Env} {a b e tg : Expr} {es : List Expr} {pos p : Pos} {x : Str} {ta tb tc ty rt : Ty} {oa ob oc o : OT} {os : List OT} {fa fb fc : Env → Option R} {fs : Env → Option RL} {st : Stmt} {ss : List Stmt}
def insAt (δ : Env) (i ci : Nat) : Option (List D) := match δ[i]? with
  | some (some (.ins k ds)) => if k = ci then some ds else none
  | _ => none
theorem insAt_some {i ci : Nat} {ds : List D} (h : insAt δ i ci = some ds) : δ[i]? = some (some (.ins ci ds)) := by
  unfold insAt at h
  split at h
  · rename_i k ds' q
    by_cases g : k = ci
    · rw [if_pos g] at h; cases h; rw [q, g]
    · rw [if_neg g] at h; cases h
  · cases h
/-- self.f -/
def fSelf (i ci j : Nat) : EF := fun δ => (insAt δ i ci).bind fun ds => okO ds[j]?
theorem zip_look {f : Str} : ∀ {fs : List Str} {vs : List V} {i : Nat} {v : V}, fs.Nodup → fs[i]? = some f → vs[i]? = some v → (fs.zip vs).lookup f = some v
  | [], _, _, _, _, h, _ => by simp at h
  | g :: r, [], _, _, _, _, e => by simp at e
  | g :: r, w :: vs, 0, v, _, h, e => by
    simp at h e
    subst h; subst e
    simp [List.lookup_cons]
  | g :: r, w :: vs, i + 1, v, nd, h, e => by
    obtain ⟨n1, n2⟩ := List.nodup_cons.mp nd
    have hm : f ∈ r := List.mem_of_getElem? (show r[i]? = some f by simpa using h)
    rw [List.zip_cons_cons, List.lookup_cons]
    have : (f == g) = false := by
      rw [beq_eq_false_iff_ne]
      intro z; subst z; exact n1 hm
    rw [this]
    exact zip_look n2 (by simpa using h) (by simpa using e)
theorem putF_zip {f : Str} {y : V} : ∀ {fs : List Str} {vs : List V} {i : Nat}, fs.Nodup → fs[i]? = some f → i < vs.length → putF f y (fs.zip vs) = fs.zip (vs.set i y)
  | [], _, _, _, h, _ => by simp at h
  | g :: r, [], _, _, _, e => by simp at e
  | g :: r, w :: vs, 0, _, h, e => by
    simp at h
    subst h
    simp [putF]
  | g :: r, w :: vs, i + 1, nd, h, e => by
    obtain ⟨n1, n2⟩ := List.nodup_cons.mp nd
    have hm : f ∈ r := List.mem_of_getElem? (show r[i]? = some f by simpa using h)
    have ne : ¬ g = f := fun z => n1 (z ▸ hm)
    rw [List.zip_cons_cons, List.set_cons_succ, List.zip_cons_cons]
    show (if g = f then _ else (g, w) :: putF f y (r.zip vs)) = _
    rw [if_neg ne, putF_zip n2 (by simpa using h) (by simpa using e)]
theorem putF_new {f : Str} {y : V} : ∀ {fs : List Str} {vs : List V}, fs.Nodup → fs[vs.length]? = some f → putF f y (fs.zip vs) = fs.zip (vs ++ [y])
  | [], _, _, h => by simp at h
  | g :: r, [], _, h => by
    simp at h
    subst h
    simp [putF]
  | g :: r, w :: vs, nd, h => by
    obtain ⟨n1, n2⟩ := List.nodup_cons.mp nd
    have h' : r[vs.length]? = some f := by simpa using h
    have hm : f ∈ r := List.mem_of_getElem? h'
    have ne : ¬ g = f := fun z => n1 (z ▸ hm)
    rw [List.zip_cons_cons, List.cons_append, List.zip_cons_cons]
    show (if g = f then _ else (g, w) :: putF f y (r.zip vs)) = _
    rw [if_neg ne, putF_new n2 h']
theorem clsT_nd (ci : Nat) : (clsT ci).fields.Nodup := by
  unfold clsT
  split <;> decide +kernel
theorem clsT_few (ci : Nat) : (clsT ci).fields.length ≤ 12 := by
  unfold clsT
  split <;> decide
theorem zip_few {ci : Nat} {vs : List V} : ((clsT ci).fields.zip vs).length < 1000 := by
  rw [List.length_zip]
  have := clsT_few ci
  omega
theorem e_self {i ci j : Nat} {f : Str} (hK : X.K = c.K) (n : Nm X.N X.env.scope i x) (hk : OwnK c.Ks i (.ins os)) (hc : ClsOk c.K ci) (hf : (clsT ci).fields[j]? = some f) (ho : os[j]? = some o)
    (hb : attributeBase (.Name x p) f X.env (eval (.Name x p) X.env) = eval (.Name x p) X.env) : PE X (.Attribute (.Name x p) f pos) (tV c (.vw o) (fSelf i ci j)) := by
  refine PE.imp (pe_fld (pe_var n.n n.v n.d n.cd) hb) fun σ H Q h => ?_
  obtain ⟨F, δ, E, h⟩ := h
  change Gv c (.vw o) F H σ Q ((insAt δ i ci).bind fun ds => okO ds[j]?) at h
  cases e : insAt δ i ci with
  | none => rw [e] at h; exact h.elim
  | some ds =>
    rw [e] at h
    have h : Gv c (.vw o) F H σ Q (okO ds[j]?) := h
    obtain ⟨d, ej, q⟩ := h.okT
    obtain ⟨a, dx, vs, v, Aj, eσ, ha, hl, hv, ow, _⟩ := EnvOk.fld E hk (insAt_some e) ho ej
    exact ⟨_, eσ, a, clsA c.K ci, dx, _, v, rfl, ha, hK ▸ hc.1, hK ▸ hc.2 f (List.mem_of_getElem? hf), zip_look (clsT_nd ci) hf hv, q v F H (Up.refl E.fh) ⟨Aj, ow⟩⟩
/-- self.f = e, the field there already -/
def sFset (i ci j : Nat) (fa : EF) : So := fun δ => bndS (fa δ) δ fun d => (insAt δ i ci).bind fun ds => if j < ds.length then some (.nx (δ.set i (some (.ins ci (ds.set j d))))) else none
theorem fld_there {K : PySem.W.Frag} {o : OT} {d : D} {v : V} {A : List Addr} {H' : Hp} {a : Addr} {u : HO} (ow : Own K F H o d v A) (na : a ∉ A) : Own K F (upd H a u) o d v A :=
  ow.frame (Same.refl _) fun b hb => upd_ne fun z => na (z ▸ hb)
theorem st_fset {i ci j : Nat} {f : Str} {p' : Pos} (hK : X.K = c.K) (n : Nm X.N X.env.scope i x) (hk : OwnK c.Ks i (.ins os)) (hc : ClsOk c.K ci) (hf : (clsT ci).fields[j]? = some f) (ho : os[j]? = some o) (hfz : o = .fz ∨ ta = .fr o) (ca : coe ta .fz = true)
    (ha : PE X a (tV c ta fa)) (hs : swapsWith a (some (.Attribute (.Name x p) f p')) pos.line X.env = pure false) : PS X (.Assign [.Attribute (.Name x p) f p'] a pos) (tS c rt (sFset i ci j fa)) := by
  refine PS.imp (ps_fld (pe_var n.n n.v n.d n.cd) ha hs) fun D σ H h => ?_
  obtain ⟨F, δ, E, h⟩ := h
  change Gs c rt F D (bndS (fa δ) δ fun d => (insAt δ i ci).bind fun ds => if j < ds.length then some (.nx (δ.set i (some (.ins ci (ds.set j d))))) else none) at h
  have fin : ∀ (d : Ev.D) (v : V) (F1 H1 : Hp) (A' : List Addr), Up F H F1 H1 → c.E F1 H1 σ δ → Own c.K F1 H1 o d v A' → A'.Nodup → (∀ b ∈ A', H b = none ∧ F1 b = none) →
      Gs c rt F1 D ((insAt δ i ci).bind fun ds => if j < ds.length then some (.nx (δ.set i (some (.ins ci (ds.set j d))))) else none) → ∃ x0, σ[i]? = some (some x0) ∧ ∃ a C dx fs, x0 = .ref a ∧ H1 a = some (.ins C dx fs) ∧ Cls X.K C ∧ NoAttr X.K C f ∧ fs.length < 1000 ∧ D.nx σ (upd H1 a (.ins C dx (putF f v fs))) := fun d v F1 H1 A' u1 E1 ow nA nw h1 => by
    obtain ⟨ds, e1, h1⟩ := bind_someO h1
    by_cases hj : j < ds.length
    · rw [if_pos hj] at h1
      obtain ⟨a, dx, vs, w, Aj, eσ, ea, hl, hv, ow0, naj, fAj, fa0, put⟩ := EnvOk.fld E hk (insAt_some e1) ho (List.getElem?_eq_getElem hj)
      have hA : H a ≠ none := by rw [ea]; simp
      have naA : a ∉ A' := fun q => hA (nw a q).1
      have fa1 : F1 a = none := u1.fr a fa0 hA
      refine ⟨_, eσ, a, clsA c.K ci, dx, _, rfl, u1.hh _ _ ea, hK ▸ hc.1, hK ▸ hc.2 f (List.mem_of_getElem? hf), zip_few, Gs.nx h1 ?_⟩
      rw [putF_zip (clsT_nd ci) hf (by have := (List.getElem?_eq_some_iff.mp hv).1; exact this)]
      refine put (Aj' := A') u1.ff (fun b u q => ?_) u1.fr (fun b _ ne hb => by rw [upd_ne ne]; exact Same.eq u1.hh hb) upd_same (fld_there (H' := H1) ow naA) nA (fun b hb => .inr (nw b hb).1) fun b hb => (nw b hb).2
      rw [upd_ne fun z => by rw [z, fa1] at q; cases q]; exact u1.fh b u q
    · rw [if_neg hj] at h1; exact h1.elim
  rcases hfz with rfl | rfl
  · refine tV.goS ca E h fun d v F1 H1 u1 E1 ⟨A, hx⟩ h1 => ?_
    exact fin d v F1 H1 [] u1 E1 (Own.of_is hx.is) List.nodup_nil (fun _ h => nomatch h) h1
  · refine tV.goP E h fun d v F1 H1 u1 E1 p h1 => ?_
    obtain ⟨A, ow, nd, nn⟩ := p
    exact fin d v F1 H1 A u1 E1 ow nd nn h1
/-! ### self.f.append(e) -/
def sFapp (i ci j : Nat) (fa : EF) : So := fun δ => (insAt δ i ci).bind fun ds0 => (match ds0[j]? with | some (.lst _) => some () | _ => none).bind fun _ => bndS (fa δ) δ fun d => (insAt δ i ci).bind fun ds => match ds[j]? with
  | some (.lst xs) => if xs.length < sizeLine then some (.nx (δ.set i (some (.ins ci (ds.set j (.lst (xs ++ [d]))))))) else none
  | _ => none
theorem fld_set_same {ci j : Nat} {vs : List V} {v : V} (h : vs[j]? = some v) : vs.set j v = vs := by
  apply List.ext_getElem?
  intro k
  rw [List.getElem?_set]
  by_cases e : j = k
  · subst e
    have := (List.getElem?_eq_some_iff.mp h).1
    rw [if_pos rfl, if_pos this, h]
  · rw [if_neg e]
/-- the list of a field, as it stands and changed -/
theorem EnvOk.flst {K : PySem.W.Frag} {Ks : List Kd} {F0 : Hp} (E : EnvOk K Ks F0 G F H σ δ) {i j ci : Nat} {ds xs : List D} (hk : OwnK Ks i (.ins os)) (hd : δ[i]? = some (some (.ins ci ds))) (ho : os[j]? = some (.lst .fz)) (hj : ds[j]? = some (.lst xs)) :
    ∃ a dx vs l ws, σ[i]? = some (some (.ref a)) ∧ H a = some (.ins (clsA K ci) dx ((clsT ci).fields.zip vs)) ∧ vs[j]? = some (.ref l) ∧ H l = some (.lst ws) ∧ IsL K F xs ws ∧
      ∀ xs' ws', IsL K F xs' ws' → EnvOk K Ks F0 G F (upd H l (.lst ws')) σ (δ.set i (some (.ins ci (ds.set j (.lst xs'))))) := by
  obtain ⟨a, dx, vs, v, Aj, eσ, ea, hl, hv, ow, naj, fAj, fa0, put⟩ := EnvOk.fld E hk hd ho hj
  simp only [Own] at ow
  obtain ⟨l, ws, B, rfl, hL, hO, rfl⟩ := ow
  obtain ⟨eB, hI⟩ := hO.fz
  subst eB
  have fl : F l = none := fAj l (by simp)
  have nal : a ≠ l := fun z => naj (by simp [z])
  refine ⟨a, dx, vs, l, ws, eσ, ea, hv, hL, hI, fun xs' ws' hI' => ?_⟩
  refine put (v' := .ref l) (Aj' := [l]) (Same.refl _) (fun b u q => ?_) (fun b q _ => q) (fun b nb _ _ => upd_ne fun z => nb (by simp [z])) (by rw [upd_ne nal, fld_set_same (ci := ci) hv]; exact ea) ?_ (by simp) (fun b hb => .inl hb) fun b hb => ?_
  · rw [upd_ne fun z => by rw [z, fl] at q; cases q]; exact E.fh b u q
  · simp only [Own]
    exact ⟨l, ws', [], rfl, upd_same, OwnL.of_fz hI', rfl⟩
  · have : b = l := by simpa using hb
    rw [this]; exact fl
theorem st_fapp {i ci j : Nat} {f : Str} {pa apos cpos : Pos} (hK : X.K = c.K) (n : Nm X.N X.env.scope i x) (hk : OwnK c.Ks i (.ins os)) (hc : ClsOk c.K ci) (hf : (clsT ci).fields[j]? = some f) (ho : os[j]? = some (.lst .fz))
    (ha : PE X a (tV c ta fa)) (ca : coe ta .fz = true) (hb0 : attributeBase (.Name x p) f X.env (eval (.Name x p) X.env) = eval (.Name x p) X.env)
    (hbase : attributeBase (.Attribute (.Name x p) f pa) "append" X.env (eval (.Attribute (.Name x p) f pa) X.env) = eval (.Attribute (.Name x p) f pa) X.env)
    (hfew : ((backTo cpos (starEach [a] X.env)).all (fun x => !x.1) && (backToKw cpos (keywordEach [] X.env)).all (fun x => x.1.isSome) && decide ([a].length + ([] : List Keyword).length + (if ([] : List Keyword).isEmpty then 0 else 1) < 30)) = true)
    (hline : (apos.endLine == cpos.line) = true) (hs : starEach [a] X.env = (false, eval a X.env) :: starEach [] X.env) (hplain : (backTo cpos (starEach [] X.env)).any (·.1) = false)
    (hsw : swapsWith (.Call (.Attribute (.Attribute (.Name x p) f pa) "append" apos) [a] [] cpos) none pos.line X.env = pure false) :
    PS X (.Expr (.Call (.Attribute (.Attribute (.Name x p) f pa) "append" apos) [a] [] cpos) pos) (tS c rt (sFapp i ci j fa)) := by
  refine PS.imp (ps_expr (pe_bm PySem.F.plainAttrs_list PySem.F.slot_list_append PySem.F.type_list_append mt_append (pe_fld (pe_var n.n n.v n.d n.cd) hb0) (pa_cons ha pa_nil hs) hbase hfew hline hs hplain) hsw) fun D σ H h => ?_
  obtain ⟨F, δ, E, h⟩ := h
  obtain ⟨ds, e1, h⟩ := bind_someO h
  obtain ⟨_, e2, h⟩ := bind_someO h
  have e3 : ∃ xs, ds[j]? = some (.lst xs) := by
    split at e2
    · rename_i xs q; exact ⟨xs, q⟩
    · cases e2
  obtain ⟨xs, e3⟩ := e3
  obtain ⟨a0, dx, vs, l, ws, eσ, ea, hv, hL, hI, _⟩ := EnvOk.flst E hk (insAt_some e1) ho e3
  refine ⟨_, eσ, a0, clsA c.K ci, dx, _, _, rfl, ea, hK ▸ hc.1, hK ▸ hc.2 f (List.mem_of_getElem? hf), zip_look (clsT_nd ci) hf hv, .inl ⟨rfl, ws, SqL.of hL⟩, ?_⟩
  refine tV.goS ca E h fun d v F1 H1 u1 E1 ⟨A, hx⟩ h1 => ?_
  obtain ⟨ds1, e4, h1⟩ := bind_someO h1
  rw [e1] at e4; cases e4
  rw [e3] at h1
  obtain ⟨a1, dx1, vs1, l1, ws1, eσ1, ea1, hv1, hL1, hI1, put⟩ := EnvOk.flst E1 hk (insAt_some e1) ho e3
  rw [eσ] at eσ1
  have e5 : a0 = a1 := by cases eσ1; rfl
  subst e5
  have e6 := u1.hh _ _ ea
  rw [ea1] at e6
  have e7 : l1 = l := by
    have z : (clsT ci).fields.zip vs1 = (clsT ci).fields.zip vs := by
      have q := Option.some.inj e6
      injection q
    have q1 := zip_look (clsT_nd ci) hf hv1
    rw [z, zip_look (clsT_nd ci) hf hv] at q1
    cases q1; rfl
  subst e7
  have h1 : Gs c rt F1 D (if xs.length < sizeLine then some (.nx (δ.set i (some (.ins ci (ds.set j (.lst (xs ++ [d]))))))) else none) := h1
  by_cases g : xs.length < sizeLine
  · rw [if_pos g] at h1
    exact ⟨l1, ws1, v, rfl, rfl, hL1, by rw [hI1.length]; exact g, Gs.nx h1 (put _ _ (isL_app hI1 ⟨v, [], rfl, hx.is, by simp only [IsL]⟩))⟩
  · rw [if_neg g] at h1; exact h1.elim
end Ev

set_option maxHeartbeats 4000000
/-! Ev, part R: defs that change their first argument; objects made. -/
namespace Ev
open PySem PySem.Spec PyProof.Rows L2
variable {X : Cx} {c : Cp} {F G H F' G' H' : Hp} {σ : L2.St} {δ : Env} {a b e tg : Expr} {es : List Expr} {pos p : Pos} {x : Str} {ta tb tc ty rt : Ty} {oa ob oc o : OT} {os : List OT} {fa fb fc : Env → Option R} {fs : Env → Option RL} {st : Stmt} {ss : List Stmt} {A A' : List Addr}
inductive RI where
  | ok (d s : D) | ex (x : Xd) (s : D)
abbrev FnI := D → List D → Option RI
/-- growth, but for the objects at A -/
structure UpX (F H : Hp) (A : List Addr) (F' H' : Hp) (A' : List Addr) : Prop where
  ff : Same F F'
  fh : Same F' H'
  fr : ∀ a, a ∉ A → F a = none → H a ≠ none → F' a = none
  keep : ∀ a, a ∉ A → H a ≠ none → H' a = H a
  inA : ∀ a ∈ A', a ∈ A ∨ H a = none
  nf : ∀ a ∈ A', F' a = none
  nd : A'.Nodup
def GIo (K : PySem.W.Frag) (F H : Hp) (A : List Addr) (o : OT) (v0 : V) (Q : VK) (E : XK) : Option RI → Prop
  | some (.ok d s) => ∀ v F' H' A', UpX F H A F' H' A' → Own K F' H' o s v0 A' → Is K F' d v → Q v H'
  | some (.ex x s) => ∀ cls u dx F' H' A', RelV cls u → UpX F H A F' H' A' → Own K F' H' o s v0 A' → XRep K F' H' x cls dx → E u dx H'
  | none => False
def spIo (K : PySem.W.Frag) (o : OT) (n : Nat) (φ : FnI) : Sp := fun vs H Q E => ∃ F d0 v0 ds r A, vs = v0 :: r ∧ ds.length = n ∧ Same F H ∧ Own K F H o d0 v0 A ∧ A.Nodup ∧ (∀ a ∈ A, F a = none) ∧ IsL K F ds r ∧ GIo K F H A o v0 Q E (φ d0 ds)
def slot0 (δ : Env) (k : D → Option RI) : Option RI := match δ[0]? with
  | some (some s) => k s
  | _ => none
def outI : Option Out → Option RI
  | some (.nx δ) => slot0 δ fun s => some (.ok .non s)
  | some (.ret d δ) => slot0 δ fun s => some (.ok d s)
  | some (.ex x δ) => slot0 δ fun s => some (.ex x s)
  | _ => none
def defI (n : Nat) (g : So) : FnI := fun d0 ds => outI (g (startE n (d0 :: ds)))
theorem slot0_some {k : D → Option RI} {r : RI} (h : slot0 δ k = some r) : ∃ s, δ[0]? = some (some s) ∧ k s = some r := by
  unfold slot0 at h
  split at h
  · rename_i s q; exact ⟨s, q, h⟩
  · cases h
def hid (H : Hp) (A : List Addr) : Hp := fun a => if a ∈ A then none else H a
theorem EnvOk.startI {K : PySem.W.Frag} {N : List Str} {Kt : List Kd} {d0 : D} {v0 : V} {ds : List D} {r : List V} (s : Same F H) (hN : (Kd.pn o v0 :: Kt).length = N.length) (hle : ds.length + 1 ≤ N.length) (hk : Kt.take ds.length = List.replicate ds.length (.ve .fz))
    (h0 : Own K F H o d0 v0 A) (nA : A.Nodup) (fA : ∀ a ∈ A, F a = none) (h : IsL K F ds r) : EnvOk K (.pn o v0 :: Kt) F (hid H A) F H (L2.start N (v0 :: r)) (startE N.length (d0 :: ds)) := by
  have l1 := h.length
  refine ⟨?_, ?_, fun a u e => ?_, Same.refl _, s, fun a e _ => e, fun i => if i = 0 then A else [], fun i k d e1 e2 => ?_, fun i => ?_, fun i j a ha hb => ?_, fun i a ha => ?_⟩
  · unfold L2.start
    rw [List.length_append, List.length_map, List.length_replicate, hN, List.length_cons]; omega
  · unfold startE
    rw [List.length_append, List.length_map, List.length_replicate, hN, List.length_cons]; omega
  · unfold hid at e
    by_cases z : a ∈ A
    · rw [if_pos z] at e; cases e
    · rw [if_neg z] at e; exact e
  · have e3 := startE_get e2
    cases i with
    | zero =>
      cases e1; cases e3
      exact ⟨v0, start_get rfl, rfl, h0⟩
    | succ i =>
      have e3 : ds[i]? = some d := by simpa using e3
      have e1 : Kt[i]? = some k := by simpa using e1
      have hi : i < ds.length := (List.getElem?_eq_some_iff.mp e3).1
      have e4 : (Kt.take ds.length)[i]? = some k := by rw [List.getElem?_take_of_lt hi]; exact e1
      rw [hk, List.getElem?_replicate, if_pos hi] at e4
      cases e4
      obtain ⟨v, e5, iv⟩ := h.get e3
      exact ⟨v, start_get (by simpa using e5), [], Own.of_is iv⟩
  · show (if i = 0 then A else []).Nodup
    split
    · exact nA
    · exact List.nodup_nil
  · have ha' : a ∈ (if i = 0 then A else []) := ha
    have hb' : a ∈ (if j = 0 then A else []) := hb
    split at ha' <;> split at hb'
    · rename_i e1 e2; rw [e1, e2]
    · cases hb'
    · cases ha'
    · cases ha'
  · have ha' : a ∈ (if i = 0 then A else []) := ha
    split at ha'
    · exact ⟨fA a ha', by unfold hid; rw [if_pos ha'], h0.there a ha'⟩
    · cases ha'
theorem EnvOk.endI {K : PySem.W.Frag} {Kt : List Kd} {v0 : V} {s : D} (E : EnvOk K (.pn o v0 :: Kt) F (hid H A) F' H' σ δ) (h : δ[0]? = some (some s)) : ∃ A', UpX F H A F' H' A' ∧ Own K F' H' o s v0 A' := by
  obtain ⟨As, h1, h2, h3, h4⟩ := EnvOk.sl E
  obtain ⟨v, e, s0⟩ := h1 0 _ s rfl h
  obtain ⟨ev, ow⟩ : v = v0 ∧ Own K F' H' o s v (As 0) := s0
  subst ev
  have hG : ∀ a, a ∉ A → (hid H A) a = H a := fun a ha => by unfold hid; rw [if_neg ha]
  refine ⟨As 0, ⟨E.f0, E.fh, fun a na e1 e2 => E.fr a e1 (by rw [hG a na]; exact e2), fun a na e2 => ?_, fun a ha => ?_, fun a ha => (h4 0 a ha).1, h2 0⟩, ow⟩
  · rw [← hG a na]
    exact Same.eq E.gh (by rw [hG a na]; exact e2)
  · by_cases z : a ∈ A
    · exact .inl z
    · right
      have := (h4 0 a ha).2.1
      rwa [hG a z] at this
section
variable {P : Program} {w : World} {K : PySem.W.Frag} {mg : Str → Option Value} {base : Heap} {xn qual : Str} {params : Arguments} {body : List Stmt} {scope : Scope} {dvs : List V} {kws : List (Str × V)} {f : Addr} {fd : FuncData}
/-- a body that changes its first argument -/
def BodyIo (P : Program) (w : World) (K : PySem.W.Frag) (mg : Str → Option Value) (base : Heap) (N : List Str) (qual : Str) (scope : Scope) (f : Addr) (k : Nat) (o : OT) (Kt : List Kd) (body : List Stmt) (g : So) : Prop :=
  ∀ (cdv : Value) (A : Around) (outer : List PySem.Env) (s : Shared) (H : Hp) (E : XK) (c : Cp) (v0 : V), Room k (A.deeper (envOfC qual scope s.heap.objs.size f cdv)) → c.K = K → c.Ks = .pn o v0 :: Kt →
    Takes (cxOf (L2.CX P w) P w K mg base N qual scope f cdv A outer s H E) c.W → PSs (cxOf (L2.CX P w) P w K mg base N qual scope f cdv A outer s H E) body (tS c (.vw .fz) g)
theorem def_io {N ps : List Str} {k n : Nat} {g : So} {Kt : List Kd} (FD : FunD K xn qual params body scope dvs kws f fd) (S : FnScope N ps scope) (hKs : Kt.length + 1 = N.length) (ha : n + 1 = ps.length) (hle : ps.length ≤ N.length)
    (hk : Kt.take n = List.replicate n (.ve .fz)) (hb : BodyIo P w K mg base N qual scope f k o Kt body g) : FnOk P w K mg base (L2.CX P w) (k + 1) f fd ps (spIo K o n (defI N.length g)) := by
  refine FD.ok S (fun vs H Q E h => ?_) (fun cdv A outer s H vs Q E hr h => ?_)
  · obtain ⟨F, d0, v0, ds, r, A, rfl, hn, _, _, _, _, hi, _⟩ := h
    rw [List.length_cons, hi.length, hn, ha]
  · obtain ⟨F, d0, v0, ds, r, A0, rfl, hn, sF, ow, nA, fA, hi, hq⟩ := h
    subst hn
    refine ⟨_, hb cdv A outer s H E ⟨K, .pn o v0 :: Kt, F, hid H A0, fun u dx _ H' => E u dx H'⟩ v0 hr rfl rfl (takes_of rfl rfl rfl rfl), ?_⟩
    refine ⟨F, startE N.length (d0 :: ds), EnvOk.startI sF (by rw [List.length_cons]; exact hKs) (by omega) hk ow nA fA hi, ?_⟩
    change GIo K F H A0 o v0 Q E (outI (g (startE N.length (d0 :: ds)))) at hq
    cases e : g (startE N.length (d0 :: ds)) with
    | none => rw [e] at hq; exact hq
    | some r =>
      rw [e] at hq
      cases r with
      | nx δ =>
        intro σ F' H' s1 E1
        change GIo K F H A0 o v0 Q E (slot0 δ fun s => some (.ok .non s)) at hq
        cases q : slot0 δ fun s => some (RI.ok .non s) with
        | none => rw [q] at hq; exact hq.elim
        | some r =>
          obtain ⟨s2, e2, e3⟩ := slot0_some q
          cases e3
          rw [q] at hq
          obtain ⟨A', u, ow'⟩ := EnvOk.endI E1 e2
          exact hq .non F' H' A' u ow' (by simp only [Is])
      | brk δ => exact hq.elim
      | ct δ => exact hq.elim
      | ret d δ =>
        intro v σ F' H' E1 pst
        change GIo K F H A0 o v0 Q E (slot0 δ fun s => some (.ok d s)) at hq
        cases q : slot0 δ fun s => some (RI.ok d s) with
        | none => rw [q] at hq; exact hq.elim
        | some r =>
          obtain ⟨s2, e2, e3⟩ := slot0_some q
          cases e3
          rw [q] at hq
          obtain ⟨A', u, ow'⟩ := EnvOk.endI E1 e2
          obtain ⟨B, pst⟩ := pst
          exact hq v F' H' A' u ow' pst.is
      | ex x δ =>
        intro cls u dx σ F' H' r s1 E1 xr
        change GIo K F H A0 o v0 Q E (slot0 δ fun s => some (.ex x s)) at hq
        cases q : slot0 δ fun s => some (RI.ex x s) with
        | none => rw [q] at hq; exact hq.elim
        | some r' =>
          obtain ⟨s2, e2, e3⟩ := slot0_some q
          cases e3
          rw [q] at hq
          obtain ⟨A', u', ow'⟩ := EnvOk.endI E1 e2
          exact hq cls u dx F' H' A' r u' ow' xr
end
end Ev

set_option maxHeartbeats 4000000
/-! Ev, part S: methods called on a name's object; objects made. -/
namespace Ev
open PySem PySem.Spec PyProof.Rows L2
variable {X : Cx} {c : Cp} {F G H F' G' H' : Hp} {σ : L2.St} {δ : Env} {a b e tg : Expr} {es : List Expr} {pos p : Pos} {x : Str} {ta tb tc ty rt : Ty} {oa ob oc o : OT} {os : List OT} {fa fb fc : Env → Option R} {fs : Env → Option RL} {st : Stmt} {ss : List Stmt} {A A' : List Addr}
/-- o.m(..), the wish about errors told by the slots -/
def tMethSD (C : Addr) (m : Str) (sp : Sp) (E : L2.St → XK) (ta : TE) (t : TA) : TE := fun σ H Q => ta σ H fun x H1 => ∃ a dx fs, x = .ref a ∧ H1 a = some (.ins C dx fs) ∧ fs.lookup m = none ∧ t σ H1 fun vs H2 => sp (x :: vs) H2 Q (E σ)
section
variable {CX : CXT} {k : Nat} {f C : Addr} {fd : FuncData} {ps : List Str} {sp : Sp} {E : L2.St → XK} {ob : Expr} {m : Str} {apos : Pos} {te : TE} {t : TA}
theorem pe_methSD {pl : Sem Bool} (he : PE X ob te) (c : Cls X.K C) (hm : Meth X.K C m f) (F : FnOk X.prog X.w X.K X.mg X.base CX k f fd ps sp) (hr : Room k X.A) (hb : Binds X.K fd ps []) (hx : ∀ σ, PassesAt CX X σ (E σ)) (ha : PA X (e :: es) t)
    (hst : starEach (e :: es) X.env = (false, eval e X.env) :: starEach es X.env) (hpl : (backTo pos (starEach es X.env)).any (·.1) = false)
    (ht : eval (.Call (.Attribute ob m apos) (e :: es) [] pos) X.env = (do
      let ov ← eval ob X.env
      standAt apos.atName
      let (f, first) ← holding [ov] (getMethod ov m pl)
      callWith pos f first (backTo pos (starEach (e :: es) X.env)) (backToKw pos (keywordEach [] X.env)))) :
    PE X (.Call (.Attribute ob m apos) (e :: es) [] pos) (tMethSD C m sp E te t) := by
  refine ⟨fun pins s σ H Q I h => ?_⟩
  refine PySem.W.methodCall_KW (pl := pl) (thn (he.run pins s σ H _ I h) fun u s1 ⟨x, H1, I1, rx, a, dx, fs, ex, ea, l, q⟩ => ?_) ht
  subst ex
  obtain rfl : u = Value.ref a := rx
  refine getmeth_ok I1 ea c hm l ?_
  refine PySem.W.callWith_K (first := [.ref a]) (h₀ := X.base) I.ok.mod.kin hm.kp (thn (ha.run pos pins s1 σ H1 _ I1 q) fun us s2 ⟨vs, H2, I2, r, q2⟩ => ⟨I2.kIn, ?_⟩) hst hpl
  exact run_fnSD (us := .ref a :: us) (vs := .ref a :: vs) F hr hb .nil (hx σ) I2 (.cons rfl r) (by rw [List.append_nil]; exact q2)
end
theorem zip_none {m : Str} : ∀ {fs : List Str} {vs : List V}, m ∉ fs → (fs.zip vs).lookup m = none
  | [], _, _ => rfl
  | g :: r, [], _ => rfl
  | g :: r, w :: vs, h => by
    rw [List.zip_cons_cons, List.lookup_cons]
    have : (m == g) = false := by
      rw [beq_eq_false_iff_ne]
      intro z; subst z; exact h (by simp)
    rw [this]
    exact zip_none fun q => h (by simp [q])
/-- a method that may be called on a name's object -/
structure MCal (P : Program) (w : World) (K : PySem.W.Frag) (mg : Str → Option Value) (base : Heap) (ci : Nat) (m : Str) (k : Nat) (os : List OT) (n : Nat) (φ : FnI) : Prop where
  ex : ∃ (f : Addr) (fd : FuncData) (ps : List Str), FnOk P w K mg base (L2.CX P w) k f fd ps (spIo K (.ins os) n φ) ∧ Meth K (clsA K ci) m f ∧ Binds K fd ps []
  nf : m ∉ (clsT ci).fields
def doM (i : Nat) (δ : Env) (r : Option RI) (k : D → Env → Option Out) : Option Out := match r with
  | some (.ok d s) => k d (δ.set i (some s))
  | some (.ex x s) => some (.ex x (δ.set i (some s)))
  | none => none
def sMeth (i ci : Nat) (φ : FnI) (fs : EL) : So := fun δ => (insAt δ i ci).bind fun sd => bndSL (fs δ) δ fun ds => doM i δ (φ (.ins ci sd) ds) fun _ δ' => some (.nx δ')
theorem st_meth {i ci k j : Nat} {m : Str} {n : Nat} {φ : FnI} {os0 : List OT} {apos cpos : Pos} {pl : Sem Bool} (M : MCal X.prog X.w X.K X.mg X.base ci m k os n φ) (hr : Room j X.A) (hj : k ≤ j) (hK : X.K = c.K) (nm : Nm X.N X.env.scope i x) (hk : OwnK c.Ks i (.ins os)) (hc : ClsOk c.K ci) (tk : Takes X c.W)
    (ha : PA X (e :: es) (tL c os0 fs)) (h0 : ∀ o ∈ os0, o = .fz) (hn : os0.length = n) (hst : starEach (e :: es) X.env = (false, eval e X.env) :: starEach es X.env) (hpl : (backTo cpos (starEach es X.env)).any (·.1) = false)
    (ht : eval (.Call (.Attribute (.Name x p) m apos) (e :: es) [] cpos) X.env = (do
      let ov ← eval (.Name x p) X.env
      standAt apos.atName
      let (f, first) ← holding [ov] (getMethod ov m pl)
      callWith cpos f first (backTo cpos (starEach (e :: es) X.env)) (backToKw cpos (keywordEach [] X.env))))
    (hsw : swapsWith (.Call (.Attribute (.Name x p) m apos) (e :: es) [] cpos) none pos.line X.env = pure false) :
    PS X (.Expr (.Call (.Attribute (.Name x p) m apos) (e :: es) [] cpos) pos) (tS c rt (sMeth i ci φ fs)) := by
  obtain ⟨⟨f, fd, ps, FF, hm, hb⟩, nf⟩ := M
  refine PS.imp (ps_expr (pe_methSD (pe_var nm.n nm.v nm.d nm.cd) (hK ▸ hc.1 : Cls X.K (clsA X.K ci)) hm FF (hr.mono hj) hb (fun σ => passAt tk σ) ha hst hpl ht) hsw) fun D σ H h => ?_
  obtain ⟨F, δ, E, h⟩ := h
  obtain ⟨sd, e1, h⟩ := bind_someO h
  obtain ⟨v, A, eσ, ow, _⟩ := EnvOk.own E hk (insAt_some e1)
  simp only [Own] at ow
  obtain ⟨a, dx, vs, B, rfl, ea, hl, hS, rfl⟩ := ow
  refine ⟨_, eσ, a, dx, _, rfl, hK ▸ ea, zip_none nf, F, δ, E, ?_⟩
  cases e2 : fs δ with
  | none => rw [e2] at h; exact h.elim
  | some r =>
    rw [e2] at h
    cases r with
    | ex x0 => exact Gs.bad h E
    | ok ds =>
      intro ws F1 H1 u1 w
      have E1 := Cp.E.up E u1
      have h1 := Gs.up h u1.ff
      change Gs c rt F1 D (doM i δ (φ (.ins ci sd) ds) fun _ δ' => some (.nx δ')) at h1
      obtain ⟨v2, A2, eσ2, ow2, nA, hA, put⟩ := EnvOk.own E1 hk (insAt_some e1)
      rw [eσ] at eσ2
      cases eσ2
      obtain ⟨hi, hlen⟩ := ViewL.isL h0 w
      have fin : ∀ {F' H' A' s}, UpX F1 H1 A2 F' H' A' → Own c.K F' H' (.ins os) s (.ref a) A' → c.E F' H' σ (δ.set i (some s)) := fun u o => put o u.nd u.ff u.fh u.fr u.inA u.nf u.keep
      refine ⟨F1, .ins ci sd, .ref a, ds, ws, A2, rfl, by rw [hlen, hn], u1.fh, hK ▸ ow2, nA, fun b hb => (hA b hb).1, hK ▸ hi, ?_⟩
      cases e3 : φ (.ins ci sd) ds with
      | none => rw [e3] at h1; exact h1
      | some r =>
        rw [e3] at h1
        cases r with
        | ok d s => exact fun v F' H' A' u o _ => h1 σ F' H' u.ff (fin u (hK ▸ o))
        | ex x0 s => exact fun cls u0 dx0 F' H' A' r u o xr => h1 cls u0 dx0 σ F' H' r u.ff (fin u (hK ▸ o)) (hK ▸ xr)
end Ev

set_option maxHeartbeats 4000000
/-! Ev, part T: objects made; new fields. -/
namespace Ev
open PySem PySem.Spec PyProof.Rows L2
variable {X : Cx} {c : Cp} {F G H F' G' H' : Hp} {σ : L2.St} {δ : Env} {a b e tg : Expr} {es : List Expr} {pos p : Pos} {x : Str} {ta tb tc ty rt : Ty} {oa ob oc o : OT} {os : List OT} {fa fb fc : Env → Option R} {fs : Env → Option RL} {st : Stmt} {ss : List Stmt} {A A' : List Addr}
theorem OwnS.snoc {K : PySem.W.Frag} {d : D} {v : V} (sF : Same F F') : ∀ {os : List OT} {ds : List D} {vs : List V} {B : List Addr}, OwnS K F H os ds vs B → (∀ b ∈ B, H' b = H b) → os[ds.length]? = some o → Own K F' H' o d v A' → OwnS K F' H' os (ds ++ [d]) (vs ++ [v]) (B ++ A')
  | [], [], vs, B, h, k, e, ow => by simp at e
  | o1 :: os, [], vs, B, h, k, e, ow => by
    simp at e
    subst e
    simp only [OwnS] at h
    obtain ⟨rfl, rfl⟩ := h
    exact ⟨v, [], A', [], rfl, ow, by simp [OwnS], by simp⟩
  | o1 :: os, d1 :: ds, vs, B, h, k, e, ow => by
    simp only [OwnS] at h
    obtain ⟨w, r, A1, A2, rfl, h1, h2, rfl⟩ := h
    exact ⟨w, r ++ [v], A1, A2 ++ A', rfl, Own.frame sF h1 fun b hb => k b (by simp [hb]), OwnS.snoc sF h2 (fun b hb => k b (by simp [hb])) (by simpa using e) ow, by simp⟩
  | [], d1 :: ds, vs, B, h, k, e, ow => by simp [OwnS] at h
theorem OwnS.len {K : PySem.W.Frag} : ∀ {os : List OT} {ds : List D} {vs : List V} {B : List Addr}, OwnS K F H os ds vs B → vs.length = ds.length
  | _, [], vs, B, h => by simp only [OwnS] at h; rw [h.1]; rfl
  | o1 :: os, d1 :: ds, vs, B, h => by
    simp only [OwnS] at h
    obtain ⟨w, r, A1, A2, rfl, h1, h2, rfl⟩ := h
    rw [List.length_cons, List.length_cons, OwnS.len h2]
  | [], d1 :: ds, vs, B, h => by simp [OwnS] at h
/-- self.f = e, a field that was not there -/
def sFnew (i ci j : Nat) (fa : EF) : So := fun δ => bndS (fa δ) δ fun d => (insAt δ i ci).bind fun ds => if j = ds.length then some (.nx (δ.set i (some (.ins ci (ds ++ [d]))))) else none
theorem st_fnew {i ci j : Nat} {f : Str} {p' : Pos} (hK : X.K = c.K) (n : Nm X.N X.env.scope i x) (hk : OwnK c.Ks i (.ins os)) (hc : ClsOk c.K ci) (hf : (clsT ci).fields[j]? = some f) (ho : os[j]? = some o) (hfz : o = .fz ∨ ta = .fr o) (ca : coe ta .fz = true)
    (ha : PE X a (tV c ta fa)) (hs : swapsWith a (some (.Attribute (.Name x p) f p')) pos.line X.env = pure false) : PS X (.Assign [.Attribute (.Name x p) f p'] a pos) (tS c rt (sFnew i ci j fa)) := by
  refine PS.imp (ps_fld (pe_var n.n n.v n.d n.cd) ha hs) fun D σ H h => ?_
  obtain ⟨F, δ, E, h⟩ := h
  change Gs c rt F D (bndS (fa δ) δ fun d => (insAt δ i ci).bind fun ds => if j = ds.length then some (.nx (δ.set i (some (.ins ci (ds ++ [d]))))) else none) at h
  have fin : ∀ (d : Ev.D) (v : V) (F1 H1 : Hp) (A' : List Addr), Up F H F1 H1 → Own c.K F1 H1 o d v A' → A'.Nodup → (∀ b ∈ A', H b = none ∧ F1 b = none) →
      Gs c rt F1 D ((insAt δ i ci).bind fun ds => if j = ds.length then some (.nx (δ.set i (some (.ins ci (ds ++ [d]))))) else none) → ∃ x0, σ[i]? = some (some x0) ∧ ∃ a C dx fs, x0 = .ref a ∧ H1 a = some (.ins C dx fs) ∧ Cls X.K C ∧ NoAttr X.K C f ∧ fs.length < 1000 ∧ D.nx σ (upd H1 a (.ins C dx (putF f v fs))) := fun d v F1 H1 A' u1 ow nA nw h1 => by
    obtain ⟨ds, e1, h1⟩ := bind_someO h1
    by_cases hj : j = ds.length
    · rw [if_pos hj] at h1
      obtain ⟨v0, A0, eσ, ow0, nA0, hA0, put⟩ := EnvOk.own E hk (insAt_some e1)
      simp only [Own] at ow0
      obtain ⟨a, dx, vs, B, rfl, ea, hl, hS, rfl⟩ := ow0
      obtain ⟨naB, nB⟩ := List.nodup_cons.mp nA0
      have hA : H a ≠ none := by rw [ea]; simp
      have naA : a ∉ A' := fun q => hA (nw a q).1
      have fa0 : F a = none := (hA0 a (by simp)).1
      have fa1 : F1 a = none := u1.fr a fa0 hA
      have hlv : vs.length = ds.length := hS.len
      refine ⟨_, eσ, a, clsA c.K ci, dx, _, rfl, u1.hh _ _ ea, hK ▸ hc.1, hK ▸ hc.2 f (List.mem_of_getElem? hf), zip_few, Gs.nx h1 ?_⟩
      rw [putF_new (clsT_nd ci) (by rw [hlv, ← hj]; exact hf)]
      have kB : ∀ b ∈ B, (upd H1 a (.ins (clsA c.K ci) dx ((clsT ci).fields.zip (vs ++ [v])))) b = H b := fun b hb => by
        rw [upd_ne (show b ≠ a from fun z => naB (z ▸ hb))]
        exact Same.eq u1.hh (hS.there b hb)
      refine put (A' := a :: (B ++ A')) ?_ (List.nodup_cons.mpr ⟨fun q => ?_, List.nodup_append.mpr ⟨nB, nA, fun b hb b2 hb2 e => ?_⟩⟩) u1.ff (fun b u q => ?_) (fun b _ => u1.fr b) (fun b hb => ?_) (fun b hb => ?_) fun b nb hb => ?_
      · simp only [Own]
        refine ⟨a, dx, vs ++ [v], B ++ A', rfl, upd_same, ?_, hS.snoc u1.ff kB (by rw [← hj]; exact ho) (fld_there (H' := H1) ow naA), rfl⟩
        rw [List.length_append, List.length_singleton, hlv, ← hj]
        exact (List.getElem?_eq_some_iff.mp hf).1
      · rcases List.mem_append.mp q with z | z
        · exact naB z
        · exact naA z
      · subst e
        exact hS.there b hb (nw b hb2).1
      · rw [upd_ne fun z => by rw [z, fa1] at q; cases q]; exact u1.fh b u q
      · rcases List.mem_cons.mp hb with q | q
        · exact .inl (by rw [q]; simp)
        · rcases List.mem_append.mp q with z | z
          · exact .inl (List.mem_cons_of_mem _ z)
          · exact .inr (nw b z).1
      · rcases List.mem_cons.mp hb with q | q
        · rw [q]; exact fa1
        · rcases List.mem_append.mp q with z | z
          · exact u1.fr b (hA0 b (List.mem_cons_of_mem _ z)).1 (hS.there b z)
          · exact (nw b z).2
      · rw [upd_ne fun z => nb (by rw [z]; simp)]
        exact Same.eq u1.hh hb
    · rw [if_neg hj] at h1; exact h1.elim
  rcases hfz with rfl | rfl
  · refine tV.goS ca E h fun d v F1 H1 u1 E1 ⟨A, hx⟩ h1 => ?_
    exact fin d v F1 H1 [] u1 (Own.of_is hx.is) List.nodup_nil (fun _ h => nomatch h) h1
  · refine tV.goP E h fun d v F1 H1 u1 E1 p h1 => ?_
    obtain ⟨A, ow, nd, nn⟩ := p
    exact fin d v F1 H1 A u1 ow nd nn h1
/-! ### C(..) -/
structure MkC (P : Program) (w : World) (K : PySem.W.Frag) (mg : Str → Option Value) (base : Heap) (ci : Nat) (k : Nat) (os : List OT) (n : Nat) (φ : FnI) : Prop where
  ex : ∃ (f : Addr) (fd : FuncData) (ps : List Str), FnOk P w K mg base (L2.CX P w) k f fd ps (spIo K (.ins os) n φ) ∧ Mk K (clsA K ci) f ∧ Binds K fd ps []
  g : mg (clsT ci).name = some (.ref (clsA K ci))
/-- what a maker's call is worth -/
def mkD (ci : Nat) (φ : FnI) (ds : List D) : Option D := match φ (.ins ci []) ds with
  | some (.ok .non s) => some s
  | _ => none
theorem mk_post {K : PySem.W.Frag} {F1 H1 Hn F2 H2 : Hp} {x0 dx : Addr} {ci : Nat} {s : D} {A' : List Addr} {Q : VK} (hx : H1 x0 = none) (hdx : H1 dx = none) (en : Hn = upd (upd H1 dx (.own x0)) x0 (.ins (clsA K ci) dx [])) (sF : Same F1 H1) (u : UpX F1 Hn [x0] F2 H2 A') (ow : Own K F2 H2 (.ins os) s (.ref x0) A')
    (q : ∀ v F' H', Up F1 H1 F' H' → Post K H1 F' H' (.fr (.ins os)) s v → Q v H') : Q (.ref x0) H2 := by
  have hn : ∀ b, H1 b ≠ none → Hn b = H1 b := fun b hb => by
    rw [en, upd_ne (show b ≠ x0 from fun z => hb (z ▸ hx)), upd_ne (show b ≠ dx from fun z => hb (z ▸ hdx))]
  have nx : ∀ b, H1 b ≠ none → b ∉ [x0] := fun b hb z => by
    have e : b = x0 := by simpa using z
    rw [e] at hb
    exact hb hx
  refine q _ F2 H2 ⟨u.ff, fun b o e => ?_, fun b e e2 => u.fr b (nx b e2) e (by rw [hn b e2]; exact e2), u.fh⟩ ⟨A', ow, u.nd, fun b hb => ⟨?_, u.nf b hb⟩⟩
  · rw [u.keep b (nx b (by rw [e]; simp)) (by rw [hn b (by rw [e]; simp), e]; simp), hn b (by rw [e]; simp), e]
  · rcases u.inA b hb with z | z
    · have : b = x0 := by simpa using z
      rw [this]; exact hx
    · cases e : H1 b with
      | none => rfl
      | some o => rw [hn b (by rw [e]; simp), e] at z; cases z
theorem e_make {ci k j : Nat} {n : Nat} {φ : FnI} {os0 : List OT} (M : MkC X.prog X.w X.K X.mg X.base ci k os n φ) (hr : Room j X.A) (hj : k + 1 ≤ j) (hK : X.K = c.K) (hg : Gl X (clsT ci).name) (tk : Takes X c.W) (ha : PA X (e :: es) (tL c os0 fs)) (h0 : ∀ o ∈ os0, o = .fz) (hn : os0.length = n)
    (hdb : ((clsT ci).name == ("__debug__" : Str)) = false) (he : starEach (e :: es) X.env = (false, eval e X.env) :: starEach es X.env) (hpl : (backTo pos (starEach es X.env)).any (·.1) = false) :
    PE X (.Call (.Name (clsT ci).name p) (e :: es) [] pos) (tV c (.fr (.ins os)) (fBi (mkD ci φ) fs)) := by
  obtain ⟨⟨f, fd, ps, FF, hm, hb⟩, g⟩ := M
  refine PE.imp (pe_make hm FF (hr.mono hj) hg g hb .nil (passes_call (E := fun _ _ _ => False) tk fun _ _ _ _ h => h.elim) ha hdb he hpl) fun σ H Q h => ?_
  obtain ⟨F, δ, E, h⟩ := h
  refine tL.goV E h fun ds vs F1 H1 u1 E1 w h1 => ?_
  obtain ⟨s, es2, q⟩ := h1.okT
  obtain ⟨hi, hlen⟩ := ViewL.isL h0 w
  intro x0 dx hx hdx hne
  rw [List.append_nil]
  have fx : F1 x0 = none := by
    cases z : F1 x0 with
    | none => rfl
    | some o => rw [u1.fh _ _ z] at hx; cases hx
  have fdx : F1 dx = none := by
    cases z : F1 dx with
    | none => rfl
    | some o => rw [u1.fh _ _ z] at hdx; cases hdx
  refine ⟨F1, .ins ci [], .ref x0, ds, vs, [x0], rfl, by rw [hlen, hn], fun b o z => ?_, ?_, by simp, fun b hb => ?_, hK ▸ hi, ?_⟩
  · have n1 : b ≠ x0 := fun y => by rw [y, fx] at z; cases z
    have n2 : b ≠ dx := fun y => by rw [y, fdx] at z; cases z
    rw [upd_ne n1, upd_ne n2]; exact u1.fh b o z
  · simp only [Own]
    exact ⟨x0, dx, [], [], rfl, by rw [upd_same]; simp, by simp, by simp [OwnS], rfl⟩
  · have : b = x0 := by simpa using hb
    rw [this]; exact fx
  · unfold mkD at es2
    cases e3 : φ (.ins ci []) ds with
    | none => rw [e3] at es2; cases es2
    | some r =>
      rw [e3] at es2
      cases r with
      | ex x0 s => cases es2
      | ok d s' =>
        cases d with
        | non =>
          cases es2
          intro v F2 H2 A' u ow iv
          refine ⟨by simpa only [Is] using iv, mk_post (K := c.K) hx hdx (by rw [hK]) u1.fh u (hK ▸ ow) q⟩
        | _ => cases es2
end Ev

set_option maxHeartbeats 4000000
/-! Ev, part U: a name's object only read for the length of a statement. -/
namespace Ev
open PySem PySem.Spec PyProof.Rows L2
variable {X : Cx} {c : Cp} {F G H F' G' H' : Hp} {σ : L2.St} {δ : Env} {a b e tg : Expr} {es : List Expr} {pos p : Pos} {x : Str} {ta tb tc ty rt : Ty} {oa ob oc o : OT} {os : List OT} {fa fb fc : Env → Option R} {fs : Env → Option RL} {st : Stmt} {ss : List Stmt} {A A' : List Addr}
def Cp.bor (c : Cp) (i : Nat) (o : OT) (v0 : V) (F0 G : Hp) : Cp := { c with Ks := c.Ks.set i (.rd o v0), F0 := F0, G := G }
def keepE (i : Nat) (d : D) (δ : Env) (k : Env → Out) : Option Out := match δ[i]? with
  | some (some _) => some (k (δ.set i (some d)))
  | _ => none
def keepO (i : Nat) (d : D) : Option Out → Option Out
  | some (.nx δ) => keepE i d δ .nx
  | some (.brk δ) => keepE i d δ .brk
  | some (.ct δ) => keepE i d δ .ct
  | some (.ret r δ) => keepE i d δ (.ret r)
  | some (.ex x δ) => keepE i d δ (.ex x)
  | none => none
def sBor (i : Nat) (g : So) : So := fun δ => match δ[i]? with
  | some (some d) => keepO i d (g δ)
  | _ => none
theorem keepE_some {i : Nat} {d : D} {k : Env → Out} {r : Out} (h : keepE i d δ k = some r) : ∃ d1, δ[i]? = some (some d1) ∧ r = k (δ.set i (some d)) := by
  unfold keepE at h
  split at h
  · rename_i d1 q; cases h; exact ⟨d1, q, rfl⟩
  · cases h
/-- nothing else is only read -/
def Plain (Ks : List Kd) (i : Nat) : Prop := ∀ j k, j ≠ i → Ks[j]? = some k → k = .ve .fz ∨ (∃ o, k = .ow o) ∨ ∃ o v, k = .pn o v
def Kd.pl : Kd → Bool
  | .ve .fz => true
  | .ow _ => true
  | .pn _ _ => true
  | _ => false
theorem plain_by {Ks : List Kd} {i : Nat} (h : (Ks.set i (.ve .fz)).all Kd.pl = true) : Plain Ks i := fun j k ne e => by
  have hm : k ∈ Ks.set i (.ve .fz) := List.mem_of_getElem? (i := j) (by rw [List.getElem?_set_ne (Ne.symm ne)]; exact e)
  have := List.all_eq_true.mp h k hm
  cases k with
  | ve o => cases o <;> first | exact .inl rfl | (simp [Kd.pl] at this)
  | ow o => exact .inr (.inl ⟨o, rfl⟩)
  | pn o v => exact .inr (.inr ⟨o, v, rfl⟩)
  | rd o v => simp [Kd.pl] at this
open Classical in
theorem EnvOk.bor {K : PySem.W.Frag} {Ks : List Kd} {F0 : Hp} (E : EnvOk K Ks F0 G F H σ δ) {i : Nat} {d : D} (hk : OwnK Ks i o) (hp : Plain Ks i) (hd : δ[i]? = some (some d)) :
    ∃ v0 G', Same G G' ∧ EnvOk K (Ks.set i (.rd o v0)) F G' F H σ δ ∧ ∀ {F1 H1 : Hp} {σ1 : L2.St} {δ1 : Env} {d1 : D}, EnvOk K (Ks.set i (.rd o v0)) F G' F1 H1 σ1 δ1 → δ1[i]? = some (some d1) → EnvOk K Ks F0 G F1 H1 σ1 (δ1.set i (some d)) := by
  obtain ⟨As, h1, h2, h3, h4⟩ := EnvOk.sl E
  obtain ⟨k0, hk0, v0, hv, ow, mk⟩ : ∃ k0, Ks[i]? = some k0 ∧ ∃ v, σ[i]? = some (some v) ∧ Own K F H o d v (As i) ∧ ∀ {F' H' : Hp} {d' : D} {A' : List Addr}, Own K F' H' o d' v A' → SlotOk K F' G H' k0 d' v A' := by
    rcases hk with hk | ⟨v0, hk⟩
    · obtain ⟨v, hv, s⟩ := h1 i _ d hk hd
      exact ⟨_, hk, v, hv, s, fun h => h⟩
    · obtain ⟨v, hv, s⟩ := h1 i _ d hk hd
      exact ⟨_, hk, v, hv, s.2, fun h => ⟨s.1, h⟩⟩
  have hi : i < Ks.length := (List.getElem?_eq_some_iff.mp hk0).1
  let G' : Hp := fun a => if ∃ j, j ≠ i ∧ a ∈ As j then none else H a
  have gN : ∀ {a j}, j ≠ i → a ∈ As j → G' a = none := fun {a j} ne ha => if_pos ⟨j, ne, ha⟩
  have gS : ∀ {a}, (∀ j, j ≠ i → a ∉ As j) → G' a = H a := fun {a} h => if_neg fun ⟨j, ne, ha⟩ => h j ne ha
  have gI : ∀ a ∈ As i, G' a = H a := fun a ha => gS fun j ne hj => ne (h3 j i a hj ha)
  have gG : Same G G' := fun a u e => by
    rw [gS fun j _ hj => by rw [(h4 j a hj).2.1] at e; cases e]
    exact E.gh a u e
  have gH : Same G' H := fun a u e => by
    by_cases z : ∃ j, j ≠ i ∧ a ∈ As j
    · rw [show G' a = none from if_pos z] at e; cases e
    · rw [show G' a = H a from if_neg z] at e; exact e
  refine ⟨v0, G', gG, ⟨by rw [List.length_set]; exact E.ls, by rw [List.length_set]; exact E.ld, gH, Same.refl _, E.fh, fun a e _ => e, fun j => if j = i then [] else As j, fun j k e e1 e2 => ?_, fun j => ?_, fun j l a ha hb => ?_, fun j a ha => ?_⟩, fun {F1 H1 σ1 δ1 d1} E1 hd1 => ?_⟩
  · by_cases q : j = i
    · subst q
      rw [List.getElem?_set_self hi] at e1
      cases e1
      rw [hd] at e2; cases e2
      exact ⟨v0, hv, rfl, As j, ow.frame (Same.refl _) gI⟩
    · rw [List.getElem?_set_ne (Ne.symm q)] at e1
      obtain ⟨w, e4, s⟩ := h1 j k e e1 e2
      refine ⟨w, e4, ?_⟩
      rcases hp j k q e1 with rfl | ⟨o1, rfl⟩ | ⟨o1, w1, rfl⟩
      · obtain ⟨B, s⟩ := s
        exact ⟨[], Own.of_is s.is⟩
      · show Own K F H o1 e w (if j = i then [] else As j)
        rw [if_neg q]; exact s
      · refine ⟨s.1, ?_⟩
        show Own K F H o1 e w (if j = i then [] else As j)
        rw [if_neg q]; exact s.2
  · show (if j = i then [] else As j).Nodup
    split
    · exact List.nodup_nil
    · exact h2 j
  · have ha' : a ∈ (if j = i then [] else As j) := ha
    have hb' : a ∈ (if l = i then [] else As l) := hb
    split at ha' <;> split at hb'
    · cases ha'
    · cases ha'
    · cases hb'
    · exact h3 j l a ha' hb'
  · have ha' : a ∈ (if j = i then [] else As j) := ha
    split at ha'
    · cases ha'
    · rename_i ne
      obtain ⟨x1, x2, x3⟩ := h4 j a ha'
      exact ⟨x1, gN ne ha', x3⟩
  · obtain ⟨As1, k1, k2, k3, k4⟩ := EnvOk.sl E1
    obtain ⟨v1, hv1, s1⟩ := k1 i _ d1 (List.getElem?_set_self hi) hd1
    obtain ⟨ev, _⟩ : v1 = v0 ∧ ∃ B, Own K F1 G' o d1 v1 B := s1
    subst ev
    have aG : ∀ a ∈ As i, G' a ≠ none := fun a ha => by rw [gI a ha]; exact (h4 i a ha).2.2
    have aH : ∀ a ∈ As i, H1 a = H a := fun a ha => (Same.eq E1.gh (aG a ha)).trans (gI a ha)
    refine ⟨by have := E1.ls; rwa [List.length_set] at this, by have := E1.ld; rw [List.length_set] at this ⊢; exact this, gG.trans E1.gh, E.f0.trans E1.f0, E1.fh, fun a e g => E1.fr a (E.fr a e g) (Same.some gG g), fun j => if j = i then As i else As1 j, fun j k e e1 e2 => ?_, fun j => ?_, fun j l a ha hb => ?_, fun j a ha => ?_⟩
    · rcases getElem?_set_or e2 with ⟨rfl, e3⟩ | ⟨ne, e3⟩
      · cases e3
        rw [hk0] at e1; cases e1
        have := mk (ow.frame E1.f0 aH)
        refine ⟨v1, hv1, ?_⟩
        show SlotOk K F1 G H1 k0 d v1 (if j = j then As j else As1 j)
        rw [if_pos rfl]; exact this
      · obtain ⟨w, e4, s⟩ := k1 j k e (by rw [List.getElem?_set_ne (Ne.symm ne)]; exact e1) e3
        refine ⟨w, e4, ?_⟩
        rcases hp j k ne e1 with rfl | ⟨o1, rfl⟩ | ⟨o1, w1, rfl⟩
        · obtain ⟨B, s⟩ := s
          exact ⟨[], Own.of_is s.is⟩
        · show Own K F1 H1 o1 e w (if j = i then As i else As1 j)
          rw [if_neg ne]; exact s
        · refine ⟨s.1, ?_⟩
          show Own K F1 H1 o1 e w (if j = i then As i else As1 j)
          rw [if_neg ne]; exact s.2
    · show (if j = i then As i else As1 j).Nodup
      split
      · exact h2 i
      · exact k2 j
    · have ha' : a ∈ (if j = i then As i else As1 j) := ha
      have hb' : a ∈ (if l = i then As i else As1 l) := hb
      split at ha' <;> split at hb'
      · rename_i e1 e2; rw [e1, e2]
      · exact absurd (k4 l a hb').2.1 (aG a ha')
      · exact absurd (k4 j a ha').2.1 (aG a hb')
      · exact k3 j l a ha' hb'
    · have ha' : a ∈ (if j = i then As i else As1 j) := ha
      split at ha'
      · obtain ⟨x1, x2, x3⟩ := h4 i a ha'
        exact ⟨E1.fr a x1 (aG a ha'), x2, by rw [aH a ha']; exact x3⟩
      · obtain ⟨x1, x2, x3⟩ := k4 j a ha'
        refine ⟨x1, ?_, x3⟩
        cases q : G a with
        | none => rfl
        | some u => rw [gG a u q] at x2; cases x2
theorem st_bor {i : Nat} {g : So} (hk : OwnK c.Ks i o) (hp : Plain c.Ks i) (h : ∀ v0 F0 G, PS X st (tS (c.bor i o v0 F0 G) rt g)) : PS X st (tS c rt (sBor i g)) := by
  refine ⟨fun pins s σ H D I hq => ?_⟩
  obtain ⟨F, δ, E, hg⟩ := hq
  change Gs c rt F D (match δ[i]? with | some (some d) => keepO i d (g δ) | _ => none) at hg
  cases e : δ[i]? with
  | none => rw [e] at hg; exact hg.elim
  | some q =>
    cases q with
    | none => rw [e] at hg; exact hg.elim
    | some d =>
      rw [e] at hg
      have hg : Gs c rt F D (keepO i d (g δ)) := hg
      obtain ⟨v0, G', gG, E', back⟩ := EnvOk.bor E hk hp e
      refine (h v0 F G').run pins s σ H D I ⟨F, δ, E', ?_⟩
      cases e2 : g δ with
      | none => rw [e2] at hg; exact hg
      | some r =>
        rw [e2] at hg
        cases r with
        | nx δ1 =>
          intro σ1 F1 H1 s1 E1
          have hg : Gs c rt F D (keepE i d δ1 .nx) := hg
          cases e3 : keepE i d δ1 .nx with
          | none => rw [e3] at hg; exact hg.elim
          | some r => obtain ⟨d1, q1, rfl⟩ := keepE_some e3; rw [e3] at hg; exact hg σ1 F1 H1 s1 (back E1 q1)
        | brk δ1 =>
          intro σ1 F1 H1 s1 E1
          have hg : Gs c rt F D (keepE i d δ1 .brk) := hg
          cases e3 : keepE i d δ1 .brk with
          | none => rw [e3] at hg; exact hg.elim
          | some r => obtain ⟨d1, q1, rfl⟩ := keepE_some e3; rw [e3] at hg; exact hg σ1 F1 H1 s1 (back E1 q1)
        | ct δ1 =>
          intro σ1 F1 H1 s1 E1
          have hg : Gs c rt F D (keepE i d δ1 .ct) := hg
          cases e3 : keepE i d δ1 .ct with
          | none => rw [e3] at hg; exact hg.elim
          | some r => obtain ⟨d1, q1, rfl⟩ := keepE_some e3; rw [e3] at hg; exact hg σ1 F1 H1 s1 (back E1 q1)
        | ret r δ1 =>
          intro v σ1 F1 H1 E1 ps
          have hg : Gs c rt F D (keepE i d δ1 (.ret r)) := hg
          cases e3 : keepE i d δ1 (.ret r) with
          | none => rw [e3] at hg; exact hg.elim
          | some r => obtain ⟨d1, q1, rfl⟩ := keepE_some e3; rw [e3] at hg; exact hg v σ1 F1 H1 (back E1 q1) (Post.up gG ps)
        | ex x0 δ1 =>
          intro cls u dx σ1 F1 H1 r s1 E1 xr
          have hg : Gs c rt F D (keepE i d δ1 (.ex x0)) := hg
          cases e3 : keepE i d δ1 (.ex x0) with
          | none => rw [e3] at hg; exact hg.elim
          | some r' => obtain ⟨d1, q1, rfl⟩ := keepE_some e3; rw [e3] at hg; exact hg cls u dx σ1 F1 H1 r s1 (back E1 q1) xr
end Ev

set_option maxHeartbeats 4000000
/-! Ev, part V: more that changes a field, a list, a dict. -/
namespace Ev
open PySem PySem.Spec PyProof.Rows L2
variable {X : Cx} {c : Cp} {F G H F' G' H' : Hp} {σ : L2.St} {δ : Env} {a b e tg : Expr} {es : List Expr} {pos p : Pos} {x : Str} {ta tb tc ty rt : Ty} {oa ob oc o : OT} {os : List OT} {fa fb fc : Env → Option R} {fs : Env → Option RL} {st : Stmt} {ss : List Stmt} {A A' : List Addr}
/-! ### self.f.pop() -/
def sFpop (i ci j : Nat) : So := fun δ => (insAt δ i ci).bind fun ds => match ds[j]? with
  | some (.lst xs) => if xs.length = 0 then none else some (.nx (δ.set i (some (.ins ci (ds.set j (.lst xs.dropLast))))))
  | _ => none
theorem isL_dropLast {K : PySem.W.Frag} {ds : List D} {vs : List V} (h : IsL K F ds vs) : IsL K F ds.dropLast vs.dropLast := by
  rw [List.dropLast_eq_take, List.dropLast_eq_take, h.length]
  exact h.take _
theorem st_fpop {i ci j : Nat} {f : Str} {pa apos cpos : Pos} (hK : X.K = c.K) (n : Nm X.N X.env.scope i x) (hk : OwnK c.Ks i (.ins os)) (hc : ClsOk c.K ci) (hf : (clsT ci).fields[j]? = some f) (ho : os[j]? = some (.lst .fz))
    (hb0 : attributeBase (.Name x p) f X.env (eval (.Name x p) X.env) = eval (.Name x p) X.env)
    (hbase : attributeBase (.Attribute (.Name x p) f pa) "pop" X.env (eval (.Attribute (.Name x p) f pa) X.env) = eval (.Attribute (.Name x p) f pa) X.env)
    (hline : (apos.endLine == cpos.line) = true) (hsw : swapsWith (.Call (.Attribute (.Attribute (.Name x p) f pa) "pop" apos) [] [] cpos) none pos.line X.env = pure false) :
    PS X (.Expr (.Call (.Attribute (.Attribute (.Name x p) f pa) "pop" apos) [] [] cpos) pos) (tS c rt (sFpop i ci j)) := by
  refine PS.imp (ps_expr (pe_bm0 PySem.F.plainAttrs_list PySem.F.slot_list_pop PySem.F.type_list_pop mt_pop (pe_fld (pe_var n.n n.v n.d n.cd) hb0) hbase hline) hsw) fun D σ H h => ?_
  obtain ⟨F, δ, E, h⟩ := h
  obtain ⟨ds, e1, h⟩ := bind_someO h
  cases e3 : ds[j]? with
  | none => rw [e3] at h; exact h.elim
  | some d =>
    rw [e3] at h
    cases d with
    | lst xs =>
      have h : Gs c rt F D (if xs.length = 0 then none else some (.nx (δ.set i (some (.ins ci (ds.set j (.lst xs.dropLast))))))) := h
      by_cases g : xs.length = 0
      · rw [if_pos g] at h; exact h.elim
      · rw [if_neg g] at h
        obtain ⟨a0, dx, vs, l, ws, eσ, ea, hv, hL, hI, put⟩ := EnvOk.flst E hk (insAt_some e1) ho e3
        have hw : ws.length = xs.length := hI.length
        refine ⟨_, eσ, a0, clsA c.K ci, dx, _, _, rfl, ea, hK ▸ hc.1, hK ▸ hc.2 f (List.mem_of_getElem? hf), zip_look (clsT_nd ci) hf hv, .inl ⟨rfl, ws, SqL.of hL⟩, ?_⟩
        exact ⟨l, ws, ws[ws.length - 1], rfl, rfl, hL, List.getElem?_eq_getElem (by omega), Gs.nx h (put _ _ (isL_dropLast hI))⟩
    | _ => exact h.elim
/-! ### self.f += e, whole numbers -/
def sFaug (i ci j : Nat) (fa : EF) : So := fun δ => (insAt δ i ci).bind fun ds => (match ds[j]? with | some (.int m) => some m | _ => none).bind fun m => bndS (fa δ) δ fun d => match d with
  | .int k => some (.nx (δ.set i (some (.ins ci (ds.set j (.int (m + k)))))))
  | _ => none
theorem EnvOk.fput {K : PySem.W.Frag} {Ks : List Kd} {F0 : Hp} (E : EnvOk K Ks F0 G F H σ δ) {i j ci : Nat} {ds : List D} {d0 : D} (hk : OwnK Ks i (.ins os)) (hd : δ[i]? = some (some (.ins ci ds))) (ho : os[j]? = some .fz) (hj : ds[j]? = some d0) :
    ∃ a dx vs v, σ[i]? = some (some (.ref a)) ∧ H a = some (.ins (clsA K ci) dx ((clsT ci).fields.zip vs)) ∧ vs[j]? = some v ∧ Is K F d0 v ∧
      ∀ d' v', Is K F d' v' → EnvOk K Ks F0 G F (upd H a (.ins (clsA K ci) dx ((clsT ci).fields.zip (vs.set j v')))) σ (δ.set i (some (.ins ci (ds.set j d')))) := by
  obtain ⟨a, dx, vs, v, Aj, eσ, ea, hl, hv, ow, naj, fAj, fa0, put⟩ := EnvOk.fld E hk hd ho hj
  refine ⟨a, dx, vs, v, eσ, ea, hv, ow.is, fun d' v' hi => ?_⟩
  refine put (Aj' := []) (Same.refl _) (fun b u q => ?_) (fun b q _ => q) (fun b _ ne _ => upd_ne ne) upd_same (Own.of_is hi) List.nodup_nil (fun _ h => nomatch h) fun _ h => nomatch h
  rw [upd_ne fun z => by rw [z, fa0] at q; cases q]; exact E.fh b u q
theorem st_faug {i ci j : Nat} {f : Str} {tpos : Pos} (hK : X.K = c.K) (n : Nm X.N X.env.scope i x) (hk : OwnK c.Ks i (.ins os)) (hc : ClsOk c.K ci) (hf : (clsT ci).fields[j]? = some f) (ho : os[j]? = some .fz)
    (ha : PE X a (tV c ta fa)) (ca : coe ta .bw = true) : PS X (.AugAssign (.Attribute (.Name x p) f tpos) .Add a pos) (tS c rt (sFaug i ci j fa)) := by
  refine PS.imp (ps_fldaug (pe_var n.n n.v n.d n.cd) ha in_add) fun D σ H h => ?_
  obtain ⟨F, δ, E, h⟩ := h
  obtain ⟨ds, e1, h⟩ := bind_someO h
  obtain ⟨m, e2, h⟩ := bind_someO h
  have e3 : ds[j]? = some (.int m) := by
    split at e2
    · rename_i m' q; cases e2; exact q
    · cases e2
  obtain ⟨a0, dx, vs, v, eσ, ea, hv, iv, _⟩ := EnvOk.fput E hk (insAt_some e1) ho e3
  refine ⟨_, eσ, a0, clsA c.K ci, dx, _, v, rfl, ea, hK ▸ hc.1, hK ▸ hc.2 f (List.mem_of_getElem? hf), zip_look (clsT_nd ci) hf hv, ?_⟩
  refine tV.goS ca E h fun d y F1 H1 u1 E1 ⟨A, hy⟩ h1 => ?_
  cases d with
  | int k =>
    obtain ⟨a1, dx1, vs1, v1, eσ1, ea1, hv1, iv1, put⟩ := EnvOk.fput E1 hk (insAt_some e1) ho e3
    rw [eσ] at eσ1
    have e5 : a0 = a1 := by cases eσ1; rfl
    subst e5
    have e6 := u1.hh _ _ ea
    have hv2 : v = .int m := by simpa only [Is] using iv
    refine ⟨m, k, hv2, hy.int, dx1, _, ea1, zip_few, Gs.nx h1 ?_⟩
    rw [putF_zip (clsT_nd ci) hf (List.getElem?_eq_some_iff.mp hv1).1]
    exact put _ _ (by simp only [Is])
  | _ => exact h1.elim
/-! ### d[k] = v, xs[i] = v: a field's -/
def setAll (k : Key) (v : D) : List Key → List D → List D
  | j :: ks, d :: ds => (if j = k then v else d) :: setAll k v ks ds
  | _, _ => []
def putKs (k : Key) (ks : List Key) : List Key := if (ks.any fun j => decide (j = k)) = true then ks else ks ++ [k]
def putDs (k : Key) (v : D) (ks : List Key) (ds : List D) : List D := if (ks.any fun j => decide (j = k)) = true then setAll k v ks ds else ds ++ [v]
theorem setAll_is {K : PySem.W.Frag} {k : Key} {d : D} {v : V} (hd : Is K F d v) : ∀ {kvs : List (Key × V)} {ds : List D}, IsL K F ds (kvs.map (·.2)) → IsL K F (setAll k d (kvs.map (·.1)) ds) ((kvs.map fun kv => if kv.1 = k then (kv.1, v) else kv).map (·.2))
  | [], ds, h => by cases ds <;> simp [setAll, IsL]
  | (j, w) :: r, [], h => by simp [IsL] at h
  | (j, w) :: r, e :: ds, h => by
    simp only [List.map_cons, IsL] at h
    obtain ⟨v0, rv, e1, h1, h2⟩ := h
    cases e1
    simp only [List.map_cons, setAll]
    by_cases q : j = k
    · rw [if_pos q, if_pos q]
      exact ⟨v, _, rfl, hd, setAll_is hd h2⟩
    · rw [if_neg q, if_neg q]
      exact ⟨w, _, rfl, h1, setAll_is hd h2⟩
theorem putK_is {K : PySem.W.Frag} {k : Key} {d : D} {v : V} (hd : Is K F d v) {kvs : List (Key × V)} {ds : List D} (h : IsL K F ds (kvs.map (·.2))) : (putK kvs k v).map (·.1) = putKs k (kvs.map (·.1)) ∧ IsL K F (putDs k d (kvs.map (·.1)) ds) ((putK kvs k v).map (·.2)) := by
  have ea : ((kvs.map (·.1)).any fun j => decide (j = k)) = kvs.any fun kv => decide (kv.1 = k) := by
    rw [List.any_map]; rfl
  unfold putK putKs putDs
  rw [ea]
  by_cases q : (kvs.any fun kv => decide (kv.1 = k)) = true
  · rw [if_pos q, if_pos q, if_pos q]
    refine ⟨?_, setAll_is hd h⟩
    rw [List.map_map]
    apply List.map_congr_left
    intro kv _
    show (if kv.1 = k then (kv.1, v) else kv).1 = kv.1
    split <;> rfl
  · rw [if_neg q, if_neg q, if_neg q, List.map_append, List.map_append]
    exact ⟨rfl, h.append ⟨v, [], rfl, hd, rfl⟩⟩
/-- self.f[k] = e, f a dict by texts and whole numbers -/
def dicAt (δ : Env) (i ci j : Nat) : Option (List D × List Key × List D) := (insAt δ i ci).bind fun ds => match ds[j]? with
  | some (.dic ks vs) => some (ds, ks, vs)
  | _ => none
theorem dicAt_some {i ci j : Nat} {ds vs : List D} {ks : List Key} (h : dicAt δ i ci j = some (ds, ks, vs)) : insAt δ i ci = some ds ∧ ds[j]? = some (.dic ks vs) := by
  unfold dicAt at h
  cases e : insAt δ i ci with
  | none => rw [e] at h; cases h
  | some d =>
    rw [e] at h
    have h : (match d[j]? with | some (.dic ks vs) => some (d, ks, vs) | _ => none) = some (ds, ks, vs) := h
    split at h
    · rename_i ks' vs' q; cases h; exact ⟨rfl, q⟩
    · cases h
def sFdput (i ci j : Nat) (fk fv : EF) : So := fun δ => bndS (fv δ) δ fun v => (dicAt δ i ci j).bind fun q => bndS (fk δ) δ fun y => (keyD y).bind fun k => if q.2.1.length < sizeLine then some (.nx (δ.set i (some (.ins ci (q.1.set j (.dic (putKs k q.2.1) (putDs k v q.2.1 q.2.2))))))) else none
theorem EnvOk.fdic {K : PySem.W.Frag} {Ks : List Kd} {F0 : Hp} (E : EnvOk K Ks F0 G F H σ δ) {i j ci : Nat} {ds vs0 : List D} {ks : List Key} (hk : OwnK Ks i (.ins os)) (hd : δ[i]? = some (some (.ins ci ds))) (ho : os[j]? = some .dic) (hj : ds[j]? = some (.dic ks vs0)) :
    ∃ a dx vs l kvs, σ[i]? = some (some (.ref a)) ∧ H a = some (.ins (clsA K ci) dx ((clsT ci).fields.zip vs)) ∧ vs[j]? = some (.ref l) ∧ H l = some (.dK kvs) ∧ kvs.map (·.1) = ks ∧ IsL K F vs0 (kvs.map (·.2)) ∧
      ∀ kvs' vs', IsL K F vs' (kvs'.map (·.2)) → EnvOk K Ks F0 G F (upd H l (.dK kvs')) σ (δ.set i (some (.ins ci (ds.set j (.dic (kvs'.map (·.1)) vs'))))) := by
  obtain ⟨a, dx, vs, v, Aj, eσ, ea, hl, hv, ow, naj, fAj, fa0, put⟩ := EnvOk.fld E hk hd ho hj
  simp only [Own] at ow
  obtain ⟨l, kvs, rfl, hL, hks, hI, rfl⟩ := ow
  have fl : F l = none := fAj l (by simp)
  have nal : a ≠ l := fun z => naj (by simp [z])
  refine ⟨a, dx, vs, l, kvs, eσ, ea, hv, hL, hks, hI, fun kvs' vs' hI' => ?_⟩
  refine put (v' := .ref l) (Aj' := [l]) (Same.refl _) (fun b u q => ?_) (fun b q _ => q) (fun b nb _ _ => upd_ne fun z => nb (by simp [z])) (by rw [upd_ne nal, fld_set_same (ci := ci) hv]; exact ea) ?_ (by simp) (fun b hb => .inl hb) fun b hb => ?_
  · rw [upd_ne fun z => by rw [z, fl] at q; cases q]; exact E.fh b u q
  · simp only [Own]
    exact ⟨l, kvs', rfl, upd_same, rfl, hI', rfl⟩
  · have : b = l := by simpa using hb
    rw [this]; exact fl
theorem st_fdput {i ci j : Nat} {f : Str} {pa p' : Pos} {k : Expr} (hu : X.A.units + 1 < cLine) (hK : X.K = c.K) (n : Nm X.N X.env.scope i x) (hk : OwnK c.Ks i (.ins os)) (hc : ClsOk c.K ci) (hf : (clsT ci).fields[j]? = some f) (ho : os[j]? = some .dic)
    (hv : PE X a (tV c ta fa)) (ca : coe ta .fz = true) (hkk : PE X k (tV c tb fb)) (cb : coe tb .fz = true) (hb0 : attributeBase (.Name x p) f X.env (eval (.Name x p) X.env) = eval (.Name x p) X.env)
    (hs : swapsWith a (some (.Subscript (.Attribute (.Name x p) f pa) k p')) pos.line X.env = pure false) :
    PS X (.Assign [.Subscript (.Attribute (.Name x p) f pa) k p'] a pos) (tS c rt (sFdput i ci j fb fa)) := by
  refine PS.imp (ps_dput hu (pe_fld (pe_var n.n n.v n.d n.cd) hb0) hkk hv hs) fun D σ H h => ?_
  obtain ⟨F, δ, E, h⟩ := h
  refine tV.goS ca E h fun d v F1 H1 u1 E1 ⟨A, hx⟩ h1 => ?_
  obtain ⟨⟨ds, ks, vs0⟩, e1, h1⟩ := bind_someO h1
  obtain ⟨e2, e3⟩ := dicAt_some e1
  obtain ⟨a0, dx, vs, l, kvs, eσ, ea, hv0, hL, hks, hI, _⟩ := EnvOk.fdic E1 hk (insAt_some e2) ho e3
  refine ⟨_, eσ, a0, clsA c.K ci, dx, _, _, rfl, ea, hK ▸ hc.1, hK ▸ hc.2 f (List.mem_of_getElem? hf), zip_look (clsT_nd ci) hf hv0, ?_⟩
  refine tV.goS cb E1 h1 fun y vy F2 H2 u2 E2 ⟨B, hy⟩ h2 => ?_
  obtain ⟨k0, e4, h2⟩ := bind_someO h2
  obtain ⟨a1, dx1, vs1, l1, kvs1, eσ1, ea1, hv1, hL1, hks1, hI1, put⟩ := EnvOk.fdic E2 hk (insAt_some e2) ho e3
  rw [eσ] at eσ1
  have e5 : a0 = a1 := by cases eσ1; rfl
  subst e5
  have e6 := u2.hh _ _ ea
  rw [ea1] at e6
  have e7 : l1 = l := by
    have z : (clsT ci).fields.zip vs1 = (clsT ci).fields.zip vs := by
      have q := Option.some.inj e6
      injection q
    have q1 := zip_look (clsT_nd ci) hf hv1
    rw [z, zip_look (clsT_nd ci) hf hv0] at q1
    cases q1; rfl
  subst e7
  have h2 : Gs c rt F2 D (if ks.length < sizeLine then some (.nx (δ.set i (some (.ins ci (ds.set j (.dic (putKs k0 ks) (putDs k0 d ks vs0))))))) else none) := h2
  by_cases g : ks.length < sizeLine
  · rw [if_pos g] at h2
    obtain ⟨p1, p2⟩ := putK_is (k := k0) (hx.is.mono u2.ff) hI1
    refine ⟨l1, _, rfl, .inl ⟨kvs1, k0, hL1, keyD_is e4 hy.is, by rw [← hks1, List.length_map] at g; exact g, rfl⟩, Gs.nx h2 ?_⟩
    have := put _ _ p2
    rw [p1, hks1] at this
    exact this
  · rw [if_neg g] at h2; exact h2.elim
end Ev

set_option maxHeartbeats 4000000
/-! Ev, part W: lists of a name: pop, extend; new lists by +; texts cut; reversed. -/
namespace Ev
open PySem PySem.Spec PyProof.Rows L2
variable {X : Cx} {c : Cp} {F G H F' G' H' : Hp} {σ : L2.St} {δ : Env} {a b e tg : Expr} {es : List Expr} {pos p : Pos} {x : Str} {ta tb tc ty rt : Ty} {oa ob oc o : OT} {os : List OT} {fa fb fc : Env → Option R} {fs : Env → Option RL} {st : Stmt} {ss : List Stmt} {A A' : List Addr}
/-! ### xs.pop() as a statement -/
def sPop (i : Nat) : So := fun δ => (lstAt δ i).bind fun ds => if ds.length = 0 then none else some (.nx (δ.set i (some (.lst ds.dropLast))))
theorem st_pop {i : Nat} {apos cpos : Pos} (n : Nm X.N X.env.scope i x) (hk : c.Ks[i]? = some (.ow (.lst .fz))) (hbase : attributeBase (.Name x p) "pop" X.env (eval (.Name x p) X.env) = eval (.Name x p) X.env)
    (hline : (apos.endLine == cpos.line) = true) (hsw : swapsWith (.Call (.Attribute (.Name x p) "pop" apos) [] [] cpos) none pos.line X.env = pure false) :
    PS X (.Expr (.Call (.Attribute (.Name x p) "pop" apos) [] [] cpos) pos) (tS c rt (sPop i)) := by
  refine PS.imp (ps_expr (pe_bm0 PySem.F.plainAttrs_list PySem.F.slot_list_pop PySem.F.type_list_pop mt_pop (pe_var n.n n.v n.d n.cd) hbase hline) hsw) fun D σ H h => ?_
  obtain ⟨F, δ, E, h⟩ := h
  obtain ⟨ds, e1, h⟩ := bind_someO h
  by_cases g : ds.length = 0
  · rw [if_pos g] at h; exact h.elim
  · rw [if_neg g] at h
    obtain ⟨l, vs, eσ, hl, hI, put⟩ := EnvOk.lst E hk (lstAt_some e1)
    have hw : vs.length = ds.length := hI.length
    exact ⟨_, eσ, .inl ⟨rfl, vs, SqL.of hl⟩, l, vs, vs[vs.length - 1], rfl, rfl, hl, List.getElem?_eq_getElem (by omega), Gs.nx h (put _ _ (isL_dropLast hI))⟩
/-! ### xs.extend(e) -/
def sExt (i : Nat) (fa : EF) : So := fun δ => (lstAt δ i).bind fun _ => bndS (fa δ) δ fun d => (lstAt δ i).bind fun ds => match d with
  | .lst es => if ds.length + es.length ≤ sizeLine then some (.nx (δ.set i (some (.lst (ds ++ es))))) else none
  | _ => none
theorem st_extend {i : Nat} {apos cpos : Pos} (hK : X.K = c.K) (n : Nm X.N X.env.scope i x) (hk : c.Ks[i]? = some (.ow (.lst .fz))) (ha : PE X a (tV c ta fa)) (ca : coe ta .fz = true)
    (hbase : attributeBase (.Name x p) "extend" X.env (eval (.Name x p) X.env) = eval (.Name x p) X.env)
    (hfew : ((backTo cpos (starEach [a] X.env)).all (fun x => !x.1) && (backToKw cpos (keywordEach [] X.env)).all (fun x => x.1.isSome) && decide ([a].length + ([] : List Keyword).length + (if ([] : List Keyword).isEmpty then 0 else 1) < 30)) = true)
    (hline : (apos.endLine == cpos.line) = true) (hs : starEach [a] X.env = (false, eval a X.env) :: starEach [] X.env) (hplain : (backTo cpos (starEach [] X.env)).any (·.1) = false)
    (hsw : swapsWith (.Call (.Attribute (.Name x p) "extend" apos) [a] [] cpos) none pos.line X.env = pure false) :
    PS X (.Expr (.Call (.Attribute (.Name x p) "extend" apos) [a] [] cpos) pos) (tS c rt (sExt i fa)) := by
  refine PS.imp (ps_expr (pe_bm PySem.F.plainAttrs_list PySem.F.slot_list_extend PySem.F.type_list_extend mt_extend (pe_var n.n n.v n.d n.cd) (pa_cons ha pa_nil hs) hbase hfew hline hs hplain) hsw) fun D σ H h => ?_
  obtain ⟨F, δ, E, h⟩ := h
  obtain ⟨ds, e1, h⟩ := bind_someO h
  have hd0 := lstAt_some e1
  obtain ⟨l, vs, eσ, hl, hI, _⟩ := EnvOk.lst E hk hd0
  refine ⟨_, eσ, .inl ⟨rfl, vs, SqL.of hl⟩, ?_⟩
  refine tV.goS ca E h fun d v F1 H1 u1 E1 ⟨A, hx⟩ h1 => ?_
  obtain ⟨ds1, e2, h1⟩ := bind_someO h1
  rw [e1] at e2; cases e2
  obtain ⟨l2, vs2, eσ2, hl2, hI2, put⟩ := EnvOk.lst E1 hk hd0
  rw [eσ] at eσ2; cases eσ2
  cases d with
  | lst es =>
    have h1 : Gs c rt F1 D (if ds.length + es.length ≤ sizeLine then some (.nx (δ.set i (some (.lst (ds ++ es))))) else none) := h1
    by_cases g : ds.length + es.length ≤ sizeLine
    · rw [if_pos g] at h1
      have q := hx.is
      simp only [Is] at q
      obtain ⟨b0, ws, rfl, hb, hJ⟩ := q
      exact ⟨l, b0, vs2, ws, rfl, rfl, hl2, u1.fh _ _ hb, by rw [hI2.length, hJ.length]; exact g, Gs.nx h1 (put _ _ (hI2.append hJ))⟩
    · rw [if_neg g] at h1; exact h1.elim
  | _ => exact h1.elim
/-! ### a + b, a new list -/
def catD (x y : D) : Option D := match x, y with
  | .lst xs, .lst ys => if xs.length + ys.length ≤ sizeLine then some (.lst (xs ++ ys)) else none
  | _, _ => none
def fCat (fa fb : EF) : EF := fBin catD fa fb
theorem s_cat (ha : PE X a (tV c ta fa)) (hb : PE X b (tV c tb fb)) (ca : coe ta .bw = true) (cb : coe tb .bw = true) : PE X (.BinOp a .Add b pos) (tV c (.fr (.lst .fz)) (fCat fa fb)) := by
  refine PE.imp (pe_op op_cat ha hb) fun σ H Q h => ?_
  obtain ⟨F, δ, E, h⟩ := h
  refine tV.goV ca E h fun dx x F1 H1 u1 E1 hx h1 => ?_
  refine tV.goV cb E1 h1 fun dy y F2 H2 u2 E2 hy h2 => ?_
  obtain ⟨A, hx⟩ := hx
  obtain ⟨B, hy⟩ := hy
  obtain ⟨d, e, q⟩ := h2.okT
  cases dx with
  | lst xs =>
    cases dy with
    | lst ys =>
      simp only [catD] at e
      by_cases g : xs.length + ys.length ≤ sizeLine
      · rw [if_pos g] at e
        cases e
        obtain ⟨p1, vs, rfl, hp, hi⟩ := (hx.up u2).lstF rfl u2.fh
        obtain ⟨p2, ws, rfl, hq, hj⟩ := hy.lstF rfl u2.fh
        refine ⟨p1, p2, vs, ws, rfl, rfl, hp, hq, by rw [hi.length, hj.length]; exact g, fun l hl => q _ F2 _ (Up.new u2.fh hl) (fresh_lst u2.fh hl (hi.append hj))⟩
      · rw [if_neg g] at e; cases e
    | _ => simp [catD] at e
  | _ => simp [catD] at e
/-! ### texts -/
def strL (ys : List Str) : D := .lst (ys.map D.str)
theorem isL_strs {K : PySem.W.Frag} : ∀ {ys : List Str}, (∀ y ∈ ys, PyData.strOk y = true) → IsL K F (ys.map D.str) (ys.map V.str)
  | [], _ => by simp [IsL]
  | y :: ys, h => ⟨.str y, ys.map V.str, rfl, Is.str (h y (by simp)), isL_strs fun z hz => h z (List.mem_cons_of_mem _ hz)⟩
def splitD (x : D) (ds : List D) : Option D := match x, ds with
  | .str z, [.str w] => if (w.length == 0) = false ∧ z.length + 2 ≤ sizeLine ∧ (Txt.split z w).all PyData.strOk = true then some (strL (Txt.split z w)) else none
  | _, _ => none
theorem m_split : MetS X c "str.split" [.bw] (.fr (.lst .fz)) splitD := by
  refine ⟨_, mt_split, fun F H x vs dx ds d A Q s hx w e q => ?_⟩
  obtain ⟨dy, y, B, hds, hvs, hy⟩ : ∃ dy y B, ds = [dy] ∧ vs = [y] ∧ Own c.K F H .bw dy y B := view1 w
  subst hds
  subst hvs
  cases dx with
  | str z =>
    cases dy with
    | str t =>
      simp only [splitD] at e
      by_cases g : (t.length == 0) = false ∧ z.length + 2 ≤ sizeLine ∧ (Txt.split z t).all PyData.strOk = true
      · rw [if_pos g] at e
        cases e
        refine ⟨z, t, hx.strV.1, by rw [hy.strV.1], g.1, g.2.1, fun l hl => q _ F _ (Up.new s hl) (fresh_lst s hl (isL_strs fun y hy => List.all_eq_true.mp g.2.2 y hy))⟩
      · rw [if_neg g] at e; cases e
    | _ => simp [splitD] at e
  | _ => simp [splitD] at e
def findD (x : D) (ds : List D) : Option D := match x, ds with
  | .str z, [.str w] => some (.int (Txt.find z w))
  | _, _ => none
theorem m_find : MetS X c "str.find" [.bw] (.vw .fz) findD := by
  refine ⟨_, mt_find, fun F H x vs dx ds d A Q s hx w e q => ?_⟩
  obtain ⟨dy, y, B, hds, hvs, hy⟩ : ∃ dy y B, ds = [dy] ∧ vs = [y] ∧ Own c.K F H .bw dy y B := view1 w
  subst hds
  subst hvs
  cases dx with
  | str z =>
    cases dy with
    | str t =>
      cases e
      exact ⟨z, t, hx.strV.1, by rw [hy.strV.1], q _ F H (Up.refl s) ⟨[], Own.of_is (by simp only [Is])⟩⟩
    | _ => simp [findD] at e
  | _ => simp [findD] at e
/-! ### reversed -/
def iRevD (fs : EL) : EL := fun δ => match fs δ with
  | some (.ok [.lst ds]) => some (.ok ds.reverse)
  | some (.ok _) => none
  | r => r
theorem i_rev {pr : Pos} (hK : X.K = c.K) (hg : Gl X "reversed") (hm : X.mg "reversed" = none) (ha : PA X [a] (tL c [.fz] fs)) (hs : starEach [a] X.env = [(false, eval a X.env)]) :
    PI X tg (.Call (.Name "reversed" pr) [a] [] pos) (tI c .fz (iRevD fs)) := by
  refine PI.imp (pi_reversed hg hm ha hs) fun σ H R h => ?_
  obtain ⟨F, δ, E, h⟩ := h
  refine ⟨F, δ, E, ?_⟩
  change GI c .fz F H σ R (match fs δ with | some (.ok [.lst ds]) => some (.ok ds.reverse) | some (.ok _) => none | r => r) at h
  cases e : fs δ with
  | none => rw [e] at h; exact h
  | some r =>
    rw [e] at h
    cases r with
    | ex x => exact h
    | ok l =>
      intro vs F1 H1 u w
      obtain ⟨d, hd⟩ : ∃ d, l = [d] := by
        obtain ⟨d, v, A, e1, _, _⟩ := view1 w
        exact ⟨d, e1⟩
      subst hd
      obtain ⟨d2, v, A, e1, rfl, ow⟩ := view1 w
      cases e1
      cases d with
      | lst ds =>
        have h : GI c .fz F H σ R (some (.ok ds.reverse)) := h
        have q := ow.is
        simp only [Is] at q
        obtain ⟨p0, ws, rfl, hp, hi⟩ := q
        refine ⟨p0, ws, rfl, SqL.of (u.fh _ _ hp), h _ F1 H1 u fun F2 H2 s1 s2 _ i => ⟨fun d hd => ?_, fun hl => ?_⟩⟩
        · have hlt : i < ds.length := by
            have := (List.getElem?_eq_some_iff.mp hd).1
            rwa [List.length_reverse] at this
          have e5 : ds[ds.length - 1 - i]? = some d := by
            rw [List.getElem?_reverse hlt] at hd
            exact hd
          obtain ⟨v, hv, iv⟩ := hi.get e5
          have hsq : SqL X.K H2 p0 ws := SqL.of (s2 _ _ (s1 _ _ hp))
          have hv' : ws[ws.length - 1 - i]? = some v := by rw [hi.length]; exact hv
          refine ⟨⟨by rw [hi.length]; exact hlt, ws, v, hsq, hv'⟩, fun x H' y => ?_⟩
          obtain ⟨rfl, y⟩ := y
          have := y ws hsq
          rw [hv'] at this
          cases this
          exact ⟨F2, Up.refl s2, iv.mono s1⟩
        · rw [List.length_reverse] at hl
          show ws.length ≤ i
          rw [hi.length]; exact hl
      | _ => exact h.elim
end Ev

set_option maxHeartbeats 4000000
/-! Ev, part X: methods and properties of objects that are only read. -/
namespace Ev
open PySem PySem.Spec PyProof.Rows L2
variable {X : Cx} {c : Cp} {F G H F' G' H' : Hp} {σ : L2.St} {δ : Env} {a b e tg : Expr} {es : List Expr} {pos p : Pos} {x : Str} {ta tb tc ty rt : Ty} {oa ob oc o : OT} {os : List OT} {fa fb fc : Env → Option R} {fs : Env → Option RL} {st : Stmt} {ss : List Stmt} {A A' : List Addr}
section
variable {CX : CXT} {k : Nat} {f C : Addr} {fd : FuncData} {ps : List Str} {sp : Sp} {E : L2.St → XK} {ob : Expr} {m : Str} {apos : Pos} {te : TE}
theorem pe_methSD0 {pl : Sem Bool} (he : PE X ob te) (c : Cls X.K C) (hm : Meth X.K C m f) (F : FnOk X.prog X.w X.K X.mg X.base CX k f fd ps sp) (hr : Room k X.A) (hb : Binds X.K fd ps []) (hx : ∀ σ, PassesAt CX X σ (E σ))
    (ht : eval (.Call (.Attribute ob m apos) [] [] pos) X.env = (do
      let ov ← eval ob X.env
      standAt apos.atName
      let (f, first) ← holding [ov] (getMethod ov m pl)
      callWith pos f first [] [])) :
    PE X (.Call (.Attribute ob m apos) [] [] pos) (tMethSD C m sp E te tNil) := by
  refine ⟨fun pins s σ H Q I h => ?_⟩
  refine PySem.W.methodCall_KW (pl := pl) (thn (he.run pins s σ H _ I h) fun u s1 ⟨x, H1, I1, rx, a, dx, fs, ex, ea, l, q⟩ => ?_) ht
  subst ex
  obtain rfl : u = Value.ref a := rx
  refine getmeth_ok I1 ea c hm l ?_
  exact PySem.W.callWith_K0 (first := [.ref a]) I1.kIn hm.kp (run_fnSD (us := [.ref a]) (vs := [.ref a]) F hr hb .nil (hx σ) I1 (.cons rfl .nil) (by exact q))
end
/-- a method of an object that is only read -/
structure PCal (P : Program) (w : World) (K : PySem.W.Frag) (mg : Str → Option Value) (base : Heap) (ci : Nat) (m : Str) (k : Nat) (sg : Sig) (φ : Fn) : Prop where
  ex : ∃ (f : Addr) (fd : FuncData) (ps : List Str), FnOk P w K mg base (L2.CX P w) k f fd ps (spE K sg φ) ∧ Meth K (clsA K ci) m f ∧ Binds K fd ps []
  nf : m ∉ (clsT ci).fields
def isIns (ci : Nat) : D → Bool
  | .ins k _ => k == ci
  | _ => false
theorem isIns_ok {ci : Nat} {d : D} (h : isIns ci d = true) : ∃ ds, d = .ins ci ds := by
  cases d <;> simp [isIns] at h
  subst h; exact ⟨_, rfl⟩
def fPm (ci : Nat) (φ : Fn) (fa : EF) (fs : EL) : EF := fun δ => bnd (fa δ) fun d => if isIns ci d then bndL (fs δ) fun ds => φ (d :: ds) else none
theorem is_ins {K : PySem.W.Frag} {ci : Nat} {ds : List D} {v : V} (h : Is K F (.ins ci ds) v) : ∃ a dx vs, v = .ref a ∧ F a = some (.ins (clsA K ci) dx ((clsT ci).fields.zip vs)) := by
  simp only [Is] at h
  obtain ⟨a, dx, vs, e, h1, _⟩ := h
  exact ⟨a, dx, vs, e, h1⟩
theorem e_pm {ci k j : Nat} {m : Str} {os0 : List OT} {ret : Ty} {φ : Fn} {apos : Pos} {pl : Sem Bool} (M : PCal X.prog X.w X.K X.mg X.base ci m k ⟨.fz :: os0, ret⟩ φ) (hr : Room j X.A) (hj : k ≤ j) (hK : X.K = c.K) (hc : ClsOk c.K ci) (tk : Takes X c.W)
    (ho : PE X a (tV c ta fa)) (ca : coe ta .fz = true) (ha : PA X (e :: es) (tL c os0 fs)) (hst : starEach (e :: es) X.env = (false, eval e X.env) :: starEach es X.env) (hpl : (backTo pos (starEach es X.env)).any (·.1) = false)
    (ht : eval (.Call (.Attribute a m apos) (e :: es) [] pos) X.env = (do
      let ov ← eval a X.env
      standAt apos.atName
      let (f, first) ← holding [ov] (getMethod ov m pl)
      callWith pos f first (backTo pos (starEach (e :: es) X.env)) (backToKw pos (keywordEach [] X.env)))) :
    PE X (.Call (.Attribute a m apos) (e :: es) [] pos) (tV c ret (fPm ci φ fa fs)) := by
  obtain ⟨⟨f, fd, ps, FF, hm, hb⟩, nf⟩ := M
  refine PE.imp (pe_methSD ho (hK ▸ hc.1 : Cls X.K (clsA X.K ci)) hm FF (hr.mono hj) hb (fun σ => passAt tk σ) ha hst hpl ht) fun σ H Q h => ?_
  obtain ⟨F, δ, E, h⟩ := h
  refine tV.goV ca E h fun d v F1 H1 u1 E1 ⟨A, hx⟩ h1 => ?_
  by_cases g : isIns ci d = true
  · rw [if_pos g] at h1
    obtain ⟨sd, rfl⟩ := isIns_ok g
    obtain ⟨a0, dx, vs, rfl, ea⟩ := is_ins hx.is
    refine ⟨a0, dx, _, rfl, hK ▸ u1.fh _ _ ea, zip_none nf, tL.goV E1 h1 fun ds ws F2 H2 u2 E2 w h2 => ?_⟩
    refine ⟨F2, .ins ci sd :: ds, u2.fh, ⟨.ref a0, ws, rfl, ⟨A, hK ▸ (hx.up u2)⟩, hK ▸ w⟩, ?_⟩
    cases r : φ (.ins ci sd :: ds) with
    | none => rw [r] at h2; exact h2
    | some r' =>
      rw [r] at h2
      cases r' with
      | ok d => exact hK ▸ h2
      | ex x => exact fun cls u dx F' H' rv up xr => h2 cls u dx F' H' rv up (hK ▸ xr)
  · rw [if_neg g] at h1; exact h1.elim
def fPm0 (ci : Nat) (φ : Fn) (fa : EF) : EF := fun δ => bnd (fa δ) fun d => if isIns ci d then φ [d] else none
theorem e_pm0 {ci k j : Nat} {m : Str} {ret : Ty} {φ : Fn} {apos : Pos} {pl : Sem Bool} (M : PCal X.prog X.w X.K X.mg X.base ci m k ⟨[.fz], ret⟩ φ) (hr : Room j X.A) (hj : k ≤ j) (hK : X.K = c.K) (hc : ClsOk c.K ci) (tk : Takes X c.W)
    (ho : PE X a (tV c ta fa)) (ca : coe ta .fz = true)
    (ht : eval (.Call (.Attribute a m apos) [] [] pos) X.env = (do
      let ov ← eval a X.env
      standAt apos.atName
      let (f, first) ← holding [ov] (getMethod ov m pl)
      callWith pos f first [] [])) :
    PE X (.Call (.Attribute a m apos) [] [] pos) (tV c ret (fPm0 ci φ fa)) := by
  obtain ⟨⟨f, fd, ps, FF, hm, hb⟩, nf⟩ := M
  refine PE.imp (pe_methSD0 ho (hK ▸ hc.1 : Cls X.K (clsA X.K ci)) hm FF (hr.mono hj) hb (fun σ => passAt tk σ) ht) fun σ H Q h => ?_
  obtain ⟨F, δ, E, h⟩ := h
  refine tV.goV ca E h fun d v F1 H1 u1 E1 ⟨A, hx⟩ h1 => ?_
  by_cases g : isIns ci d = true
  · rw [if_pos g] at h1
    obtain ⟨sd, rfl⟩ := isIns_ok g
    obtain ⟨a0, dx, vs, rfl, ea⟩ := is_ins hx.is
    refine ⟨a0, dx, _, rfl, hK ▸ u1.fh _ _ ea, zip_none nf, ?_⟩
    refine ⟨F1, [.ins ci sd], u1.fh, ⟨.ref a0, [], rfl, ⟨A, hK ▸ hx⟩, by simp only [ViewL]⟩, ?_⟩
    cases r : φ [.ins ci sd] with
    | none => rw [r] at h1; exact h1
    | some r' =>
      rw [r] at h1
      cases r' with
      | ok d => exact hK ▸ h1
      | ex x => exact fun cls u dx F' H' rv up xr => h1 cls u dx F' H' rv up (hK ▸ xr)
  · rw [if_neg g] at h1; exact h1.elim
/-! ### properties -/
structure PrCal (P : Program) (w : World) (K : PySem.W.Frag) (mg : Str → Option Value) (base : Heap) (ci : Nat) (m : Str) (k : Nat) (ret : Ty) (φ : Fn) : Prop where
  ex : ∃ (p0 f : Addr) (fd : FuncData) (ps : List Str), FnOk P w K mg base (L2.CX P w) k f fd ps (spE K ⟨[.fz], ret⟩ φ) ∧ PropOf K (clsA K ci) m p0 f ∧ Binds K fd ps []
def okOnly : Option R → Option R
  | some (.ok d) => some (.ok d)
  | _ => none
def fProp (ci : Nat) (φ : Fn) (fa : EF) : EF := fun δ => bnd (fa δ) fun d => if isIns ci d then okOnly (φ [d]) else none
theorem e_prop {ci k j : Nat} {m : Str} {ret : Ty} {φ : Fn} (M : PrCal X.prog X.w X.K X.mg X.base ci m k ret φ) (hr : Room j X.A) (hj : k + 1 ≤ j) (hK : X.K = c.K) (hc : ClsOk c.K ci)
    (ho : PE X a (tV c ta fa)) (ca : coe ta .fz = true) (hab : attributeBase a m X.env (eval a X.env) = eval a X.env) : PE X (.Attribute a m pos) (tV c ret (fProp ci φ fa)) := by
  obtain ⟨p0, f, fd, ps, FF, hm, hb⟩ := M.ex
  refine PE.imp (pe_prop (E := fun _ _ _ => False) ho (hK ▸ hc.1 : Cls X.K (clsA X.K ci)) hm FF (hr.mono hj) hb .nil (fun pins σ H s e s' I h => ?_) hab) fun σ H Q h => ?_
  · obtain ⟨_, _, _, _, _, _, _, _, _, _, _, _, z⟩ := h
    exact z.elim
  obtain ⟨F, δ, E, h⟩ := h
  refine tV.goV ca E h fun d v F1 H1 u1 E1 ⟨A, hx⟩ h1 => ?_
  by_cases g : isIns ci d = true
  · rw [if_pos g] at h1
    obtain ⟨sd, rfl⟩ := isIns_ok g
    obtain ⟨a0, dx, vs, rfl, ea⟩ := is_ins hx.is
    refine ⟨a0, dx, _, rfl, hK ▸ u1.fh _ _ ea, ?_⟩
    refine ⟨F1, [.ins ci sd], u1.fh, ⟨.ref a0, [], rfl, ⟨A, hK ▸ hx⟩, by simp only [ViewL]⟩, ?_⟩
    cases r : φ [.ins ci sd] with
    | none => rw [r] at h1; exact h1.elim
    | some r' =>
      rw [r] at h1
      cases r' with
      | ok d => exact hK ▸ h1
      | ex x => exact h1.elim
  · rw [if_neg g] at h1; exact h1.elim
end Ev

set_option maxHeartbeats 4000000
/-! Ev, part Y: what is read within a borrowing; new dicts; cls(..). -/
namespace Ev
open PySem PySem.Spec PyProof.Rows L2
variable {X : Cx} {c : Cp} {F G H F' G' H' : Hp} {σ : L2.St} {δ : Env} {a b e tg : Expr} {es : List Expr} {pos p : Pos} {x : Str} {ta tb tc ty rt : Ty} {oa ob oc o : OT} {os : List OT} {fa fb fc : Env → Option R} {fs : Env → Option RL} {st : Stmt} {ss : List Stmt} {A A' : List Addr}
theorem OwnS.get {K : PySem.W.Frag} : ∀ {os : List OT} {ds : List D} {vs : List V} {B : List Addr} {j : Nat} {o : OT} {d : D}, OwnS K F H os ds vs B → os[j]? = some o → ds[j]? = some d → ∃ v Aj, vs[j]? = some v ∧ Own K F H o d v Aj
  | os, [], vs, B, j, o, d, h, e1, e2 => by simp at e2
  | [], d1 :: ds, vs, B, j, o, d, h, e1, e2 => by simp at e1
  | o1 :: os, d1 :: ds, vs, B, 0, o, d, h, e1, e2 => by
    cases e1; cases e2
    simp only [OwnS] at h
    obtain ⟨v, r, A1, A2, rfl, h1, h2, rfl⟩ := h
    exact ⟨v, A1, rfl, h1⟩
  | o1 :: os, d1 :: ds, vs, B, j + 1, o, d, h, e1, e2 => by
    simp only [OwnS] at h
    obtain ⟨v, r, A1, A2, rfl, h1, h2, rfl⟩ := h
    obtain ⟨w, Aj, e3, h3⟩ := OwnS.get (j := j) h2 (by simpa using e1) (by simpa using e2)
    exact ⟨w, Aj, by simpa using e3, h3⟩
/-- an object's field, the object only read -/
theorem EnvOk.rfld {K : PySem.W.Frag} {Ks : List Kd} {F0 : Hp} (E : EnvOk K Ks F0 G F H σ δ) {i j ci : Nat} {v0 : V} {ds : List D} {d : D} (hk : Ks[i]? = some (.rd (.ins os) v0)) (hd : δ[i]? = some (some (.ins ci ds))) (ho : os[j]? = some o) (hj : ds[j]? = some d) :
    ∃ a dx vs v Aj, σ[i]? = some (some (.ref a)) ∧ G a = some (.ins (clsA K ci) dx ((clsT ci).fields.zip vs)) ∧ vs[j]? = some v ∧ Own K F G o d v Aj := by
  obtain ⟨As, h1, _⟩ := EnvOk.sl E
  obtain ⟨v, e, s⟩ := h1 i _ _ hk hd
  obtain ⟨ev, B, s⟩ : v = v0 ∧ ∃ B, Own K F G (.ins os) (.ins ci ds) v B := s
  simp only [Own] at s
  obtain ⟨a, dx, vs, B', rfl, ha, hl, hS, _⟩ := s
  obtain ⟨v, Aj, hv, ow⟩ := hS.get ho hj
  exact ⟨a, dx, vs, v, Aj, e, ha, hv, ow⟩
theorem e_selfR {i ci j : Nat} {f : Str} {v0 : V} (hK : X.K = c.K) (n : Nm X.N X.env.scope i x) (hk : c.Ks[i]? = some (.rd (.ins os) v0)) (hc : ClsOk c.K ci) (hf : (clsT ci).fields[j]? = some f) (ho : os[j]? = some o)
    (hb : attributeBase (.Name x p) f X.env (eval (.Name x p) X.env) = eval (.Name x p) X.env) : PE X (.Attribute (.Name x p) f pos) (tV c (.vw o) (fSelf i ci j)) := by
  refine PE.imp (pe_fld (pe_var n.n n.v n.d n.cd) hb) fun σ H Q h => ?_
  obtain ⟨F, δ, E, h⟩ := h
  change Gv c (.vw o) F H σ Q ((insAt δ i ci).bind fun ds => okO ds[j]?) at h
  cases e : insAt δ i ci with
  | none => rw [e] at h; exact h.elim
  | some ds =>
    rw [e] at h
    have h : Gv c (.vw o) F H σ Q (okO ds[j]?) := h
    obtain ⟨d, ej, q⟩ := h.okT
    obtain ⟨a, dx, vs, v, Aj, eσ, ha, hv, ow⟩ := EnvOk.rfld E hk (insAt_some e) ho ej
    exact ⟨_, eσ, a, clsA c.K ci, dx, _, v, rfl, E.gh _ _ ha, hK ▸ hc.1, hK ▸ hc.2 f (List.mem_of_getElem? hf), zip_look (clsT_nd ci) hf hv, q v F H (Up.refl E.fh) ⟨Aj, ow.frame (Same.refl _) fun b hb => Same.eq E.gh (ow.there b hb)⟩⟩
/-- for .. in self.f, self only read -/
theorem i_fldR {i ci j : Nat} {f : Str} {v0 : V} (hK : X.K = c.K) (n : Nm X.N X.env.scope i x) (hk : c.Ks[i]? = some (.rd (.ins os) v0)) (hc : ClsOk c.K ci) (hf : (clsT ci).fields[j]? = some f) (ho : os[j]? = some (.lst .fz))
    (hb : attributeBase (.Name x p) f X.env (eval (.Name x p) X.env) = eval (.Name x p) X.env) : PI X tg (.Attribute (.Name x p) f pos) (tI c .en (iVal (fSelf i ci j))) := by
  refine PI.imp (pi_list (pe_fld (pe_var n.n n.v n.d n.cd) hb)) fun σ H R h => ?_
  obtain ⟨F, δ, E, h⟩ := h
  change GI c .en F H σ R (bndI ((insAt δ i ci).bind fun ds => okO ds[j]?) fun d => okL (itemsD d)) at h
  cases e : insAt δ i ci with
  | none => rw [e] at h; exact h.elim
  | some ds =>
    rw [e] at h
    cases ej : ds[j]? with
    | none => simp only [Option.bind_some, ej] at h; exact h.elim
    | some d =>
      simp only [Option.bind_some, ej] at h
      obtain ⟨a, dx, vs, v, Aj, eσ, ha, hv, ow⟩ := EnvOk.rfld E hk (insAt_some e) ho ej
      cases d with
      | lst xs =>
        have h : GI c .en F H σ R (some (.ok xs)) := h
        simp only [Own] at ow
        obtain ⟨l, ws, B, rfl, hL, hO, _⟩ := ow
        refine ⟨_, eσ, a, clsA c.K ci, dx, _, _, rfl, E.gh _ _ ha, hK ▸ hc.1, hK ▸ hc.2 f (List.mem_of_getElem? hf), zip_look (clsT_nd ci) hf hv, l, rfl, ⟨ws, SqL.of (E.gh _ _ hL)⟩, h _ F H (Up.refl E.fh) ?_⟩
        rw [← hK]
        exact walk_list (fun F2 H2 s1 s2 s3 => SqL.of (s3 _ _ hL)) (by rw [hK]; exact hO.fz.2)
      | _ => simp [Own] at ow
/-- for .. in xs, xs a name's list only read -/
theorem i_nmR {i : Nat} {v0 : V} (hK : X.K = c.K) (n : Nm X.N X.env.scope i x) (hk : c.Ks[i]? = some (.rd (.lst .fz) v0)) : PI X tg (.Name x p) (tI c .en (iVal (evVar i))) := by
  refine PI.imp (pi_list (pe_var n.n n.v n.d n.cd)) fun σ H R h => ?_
  obtain ⟨F, δ, E, h⟩ := h
  change GI c .en F H σ R (bndI (evVar i δ) fun d => okL (itemsD d)) at h
  unfold evVar at h
  cases e : δ[i]? with
  | none => rw [e] at h; exact h.elim
  | some q =>
    cases q with
    | none => rw [e] at h; exact h.elim
    | some d =>
      rw [e] at h
      obtain ⟨As, h1, _⟩ := EnvOk.sl E
      obtain ⟨v, eσ, s⟩ := h1 i _ _ hk e
      obtain ⟨ev, B, s⟩ : v = v0 ∧ ∃ B, Own c.K F c.G (.lst .fz) d v B := s
      cases d with
      | lst xs =>
        have h : GI c .en F H σ R (some (.ok xs)) := h
        simp only [Own] at s
        obtain ⟨l, ws, B', rfl, hL, hO, _⟩ := s
        refine ⟨_, eσ, l, rfl, ⟨ws, SqL.of (E.gh _ _ hL)⟩, h _ F H (Up.refl E.fh) ?_⟩
        rw [← hK]
        exact walk_list (fun F2 H2 s1 s2 s3 => SqL.of (s3 _ _ hL)) (by rw [hK]; exact hO.fz.2)
      | _ => simp [Own] at s
/-! ### {} -/
theorem s_dic0 : PE X (.Dict [] [] pos) (tV c (.fr .dic) (fC (.dic [] []))) := by
  refine PE.imp pe_dnewK fun σ H Q h => ?_
  obtain ⟨F, δ, E, h⟩ := h
  intro l hl
  refine h _ F _ (Up.new E.fh hl) ⟨[l], ?_, by simp, fun a ha => ?_⟩
  · simp only [Own]
    exact ⟨l, [], rfl, upd_same, rfl, by simp [IsL], rfl⟩
  · have e : a = l := by simpa using ha
    subst e
    refine ⟨hl, ?_⟩
    cases q : F a with
    | none => rfl
    | some u => rw [E.fh _ _ q] at hl; cases hl
/-- a statement that is never reached -/
def sNever : So := fun _ => none
theorem st_never : PS X st (tS c rt sNever) := by
  refine PS.imp ps_never fun D σ H h => ?_
  obtain ⟨F, δ, E, h⟩ := h
  exact h.elim
/-! ### cls(..), cls a name -/
theorem pe_makeL {CX : CXT} {i k : Nat} {C f : Addr} {fd : FuncData} {ps : List Str} {sp : Sp} {E : XK} {t : TA} (n : Nm X.N X.env.scope i x) (M : Mk X.K C f) (F : FnOk X.prog X.w X.K X.mg X.base CX k f fd ps sp) (hr : Room (k + 1) X.A) (hb : Binds X.K fd ps []) (hx : Passes CX X E)
    (ha : PA X (e :: es) t) (he : starEach (e :: es) X.env = (false, eval e X.env) :: starEach es X.env) (hpl : (backTo pos (starEach es X.env)).any (·.1) = false) :
    PE X (.Call (.Name x p) (e :: es) [] pos) (fun σ H Q => σ[i]? = some (some (.ref C)) ∧ tMake C sp [] E t σ H Q) := by
  refine ⟨fun pins s σ H Q I h => ?_⟩
  obtain ⟨hσ, h⟩ := h
  refine wpAny_Call_Name_kw (PySem.wpAny_mono ((pe_var (X := X) (pos := p) n.n n.v n.d n.cd).run pins s σ H (fun v H1 => v = .ref C ∧ tMake C sp [] E t σ H1 Q) I (show tVar i σ H _ from ⟨_, hσ, rfl, h⟩)) (fun u s1 ⟨v, H1, I1, r1, e1, q1⟩ => ?_) fun _ _ z => z)
  subst e1
  obtain rfl : u = Value.ref C := r1
  refine PySem.W.callWith_K (h₀ := X.base) I1.ok.mod.kin M.kp (thn (ha.run pos pins s1 σ H1 _ I1 q1) fun us s2 ⟨vs, H2, I2, r, q⟩ => ⟨I2.kIn, ?_⟩) he hpl
  exact run_make M F hr hb .nil hx I2 r q
end Ev

set_option maxHeartbeats 4000000
/-! Ev, part Z: cls(..), C.m(..) of a classmethod. -/
namespace Ev
open PySem PySem.Spec PyProof.Rows L2
variable {X : Cx} {c : Cp} {F G H F' G' H' : Hp} {σ : L2.St} {δ : Env} {a b e tg : Expr} {es : List Expr} {pos p : Pos} {x : Str} {ta tb tc ty rt : Ty} {oa ob oc o : OT} {os : List OT} {fa fb fc : Env → Option R} {fs : Env → Option RL} {st : Stmt} {ss : List Stmt} {A A' : List Addr}
def isCl (ci : Nat) : D → Bool
  | .cl k => k == ci
  | _ => false
theorem isCl_ok {ci : Nat} {d : D} (h : isCl ci d = true) : d = .cl ci := by
  cases d <;> simp [isCl] at h
  subst h; rfl
def fMakeL (i ci : Nat) (φ : FnI) (fs : EL) : EF := fun δ => bnd (evVar i δ) fun d => if isCl ci d then bndL (fs δ) fun ds => okO (mkD ci φ ds) else none
theorem e_makeL {i ci k j : Nat} {n : Nat} {φ : FnI} {os0 : List OT} {kd : Kd} (M : MkC X.prog X.w X.K X.mg X.base ci k os n φ) (nm : Nm X.N X.env.scope i x) (hkd : c.Ks[i]? = some (.ve .fz)) (hr : Room j X.A) (hj : k + 1 ≤ j) (hK : X.K = c.K) (tk : Takes X c.W) (ha : PA X (e :: es) (tL c os0 fs)) (h0 : ∀ o ∈ os0, o = .fz) (hn : os0.length = n)
    (he : starEach (e :: es) X.env = (false, eval e X.env) :: starEach es X.env) (hpl : (backTo pos (starEach es X.env)).any (·.1) = false) :
    PE X (.Call (.Name x p) (e :: es) [] pos) (tV c (.fr (.ins os)) (fMakeL i ci φ fs)) := by
  obtain ⟨⟨f, fd, ps, FF, hm, hb⟩, g⟩ := M
  refine PE.imp (pe_makeL nm hm FF (hr.mono hj) hb (passes_call (E := fun _ _ _ => False) tk fun _ _ _ _ h => h.elim) ha he hpl) fun σ H Q h => ?_
  obtain ⟨F, δ, E, h⟩ := h
  change Gv c _ F H σ Q (bnd (evVar i δ) fun d => if isCl ci d then bndL (fs δ) fun ds => okO (mkD ci φ ds) else none) at h
  unfold evVar at h
  cases e0 : δ[i]? with
  | none => rw [e0] at h; exact h.elim
  | some q =>
    cases q with
    | none => rw [e0] at h; exact h.elim
    | some d =>
      rw [e0] at h
      have h2 : Gv c _ F H σ Q (if isCl ci d then bndL (fs δ) fun ds => okO (mkD ci φ ds) else none) := h
      clear h
      by_cases gc : isCl ci d = true
      · rw [if_pos gc] at h2
        have ed := isCl_ok gc
        subst ed
        obtain ⟨v, eσ, A0, ow⟩ := EnvOk.var E hkd e0
        have iv := Own.is (show Own c.K F H .fz (.cl ci) v A0 from ow)
        simp only [Is] at iv
        subst iv
        refine ⟨hK ▸ eσ, ?_⟩
        refine tL.goV E h2 fun ds vs F1 H1 u1 E1 w h1 => ?_
        obtain ⟨s, es2, q⟩ := h1.okT
        obtain ⟨hi, hlen⟩ := ViewL.isL h0 w
        intro x0 dx hx hdx hne
        rw [List.append_nil]
        have fx : F1 x0 = none := by
          cases z : F1 x0 with
          | none => rfl
          | some o => rw [u1.fh _ _ z] at hx; cases hx
        have fdx : F1 dx = none := by
          cases z : F1 dx with
          | none => rfl
          | some o => rw [u1.fh _ _ z] at hdx; cases hdx
        refine ⟨F1, .ins ci [], .ref x0, ds, vs, [x0], rfl, by rw [hlen, hn], fun b o z => ?_, ?_, by simp, fun b hb => ?_, hK ▸ hi, ?_⟩
        · have n1 : b ≠ x0 := fun y => by rw [y, fx] at z; cases z
          have n2 : b ≠ dx := fun y => by rw [y, fdx] at z; cases z
          rw [upd_ne n1, upd_ne n2]; exact u1.fh b o z
        · simp only [Own]
          exact ⟨x0, dx, [], [], rfl, by rw [upd_same]; simp, by simp, by simp [OwnS], rfl⟩
        · have : b = x0 := by simpa using hb
          rw [this]; exact fx
        · unfold mkD at es2
          cases e3 : φ (.ins ci []) ds with
          | none => rw [e3] at es2; cases es2
          | some r =>
            rw [e3] at es2
            cases r with
            | ex x0 s => cases es2
            | ok d s' =>
              cases d with
              | non =>
                cases es2
                intro v F2 H2 A' u ow iv
                refine ⟨by simpa only [Is] using iv, mk_post (K := c.K) hx hdx (by rw [hK]) u1.fh u (hK ▸ ow) q⟩
              | _ => cases es2
      · rw [if_neg gc] at h2; exact h2.elim
/-! ### C.m(..) -/
section
variable {CX : CXT} {k : Nat} {C pr g : Addr} {fd : FuncData} {ps : List Str} {sp : Sp} {E : L2.St → XK} {mc : Value} {m : Str} {apos : Pos} {te : TE} {t : TA}
theorem run_cmSD {pins : List (Addr × Obj)} {σ : L2.St} {H : Hp} {s : Shared} {q : Addr} {Q : VK} {us : List Value} {vs : List V} (F : FnOk X.prog X.w X.K X.mg X.base CX k g fd ps sp) (hr : Room k X.A) (hb : Binds X.K fd ps []) (hx : PassesAt CX X σ (E σ)) (I : Inv X ((q, PySem.W.methodObj (.ref g) (.ref C)) :: pins) σ H s)
    (r : Vals vs us) (h : sp (.ref C :: vs) H Q (E σ)) : wpAny (model X.prog X.w) X.A (call (.ref q) us) (EP X pins σ Q) X.xe s := by
  have r2 : Vals (V.ref C :: vs) (Value.ref C :: us) := .cons rfl r
  have hl : ((Value.ref C :: us) ++ []).length = ps.length := by rw [List.append_nil, ← r2.length]; exact F.len _ _ _ _ h
  have hbt := hb s (.ref C :: us) I.kIn hl
  rw [List.append_nil] at hbt
  have z : wpAny (model X.prog X.w) X.A (call (.ref q) us) (EP X ((q, PySem.W.methodObj (.ref g) (.ref C)) :: pins) σ Q) X.xe s :=
    wpAny_call (PySem.W.method_call (ClX.pin_at I) (codeAny_mono (F.run X.A X.stack s H ⟨.ref C :: us, []⟩ (.ref C :: us) (.ref C :: vs) Q (E σ) hr I.env0 hbt r2 h) fun r s' hq => by
      cases r with
      | error e => exact hx _ H s e s' I hq
      | ok fl =>
        cases fl with
        | ret u => exact I.after hq
        | next => exact False.elim hq
        | brk => exact False.elim hq
        | cont => exact False.elim hq))
  exact thn z fun _ _ y => ClX.unpinE y
def tCMethSD (C : Addr) (sp : Sp) (E : L2.St → XK) (ta : TE) (t : TA) : TE := fun σ H Q => ta σ H fun x H1 => x = .ref C ∧ t σ H1 fun vs H2 => sp (.ref C :: vs) H2 Q (E σ)
theorem pe_cmethSD {pl : Sem Bool} (he : PE X a te) (r : ClX.CRead X.K C mc) (c : ClX.CMet X.K C mc m pr g) (F : FnOk X.prog X.w X.K X.mg X.base CX k g fd ps sp) (hr : Room k X.A) (hb : Binds X.K fd ps []) (hx : ∀ σ, PassesAt CX X σ (E σ)) (ha : PA X (e :: es) t)
    (hst : starEach (e :: es) X.env = (false, eval e X.env) :: starEach es X.env) (hpl : (backTo pos (starEach es X.env)).any (·.1) = false)
    (ht : eval (.Call (.Attribute a m apos) (e :: es) [] pos) X.env = (do
      let ov ← eval a X.env
      standAt apos.atName
      let (f, first) ← holding [ov] (getMethod ov m pl)
      callWith pos f first (backTo pos (starEach (e :: es) X.env)) (backToKw pos (keywordEach [] X.env)))) :
    PE X (.Call (.Attribute a m apos) (e :: es) [] pos) (tCMethSD C sp E te t) := by
  refine ⟨fun pins s σ H Q I h => ?_⟩
  refine PySem.W.methodCall_KW (pl := pl) (thn (he.run pins s σ H _ I h) fun u s1 ⟨x, H1, I1, rx, ex, q⟩ => ?_) ht
  subst ex
  obtain rfl : u = Value.ref C := rx
  refine ClX.getmethcm_ok I1 r c fun s2 I2 => ?_
  refine ClX.callwith_cm I2 (ClX.base_none I1 (Nat.le_refl _)) c.fi (thn (ha.run pos _ s2 σ H1 _ I2 q) fun us s3 ⟨vs, H2, I3, rv, q2⟩ => ⟨⟨ClX.pin_at I3, I3.kIn⟩, ?_⟩) hst hpl
  exact run_cmSD F hr hb (hx σ) I3 rv q2
end
/-- a classmethod -/
structure CmCal (P : Program) (w : World) (K : PySem.W.Frag) (mg : Str → Option Value) (base : Heap) (ci : Nat) (m : Str) (k : Nat) (sg : Sig) (φ : Fn) : Prop where
  ex : ∃ (mc : Value) (pr f : Addr) (fd : FuncData) (ps : List Str), FnOk P w K mg base (L2.CX P w) k f fd ps (spE K sg φ) ∧ ClX.CRead K (clsA K ci) mc ∧ ClX.CMet K (clsA K ci) mc m pr f ∧ Binds K fd ps []
  g : mg (clsT ci).name = some (.ref (clsA K ci))
def fCm (ci : Nat) (φ : Fn) (fs : EL) : EF := fun δ => bndL (fs δ) fun ds => φ (.cl ci :: ds)
theorem e_cm {ci k j : Nat} {m : Str} {os0 : List OT} {ret : Ty} {φ : Fn} {apos : Pos} {pl : Sem Bool} (M : CmCal X.prog X.w X.K X.mg X.base ci m k ⟨.fz :: os0, ret⟩ φ) (hr : Room j X.A) (hj : k ≤ j) (hK : X.K = c.K) (hg : Gl X (clsT ci).name) (tk : Takes X c.W) (hdb : ((clsT ci).name == ("__debug__" : Str)) = false)
    (ha : PA X (e :: es) (tL c os0 fs)) (hst : starEach (e :: es) X.env = (false, eval e X.env) :: starEach es X.env) (hpl : (backTo pos (starEach es X.env)).any (·.1) = false)
    (ht : eval (.Call (.Attribute (.Name (clsT ci).name p) m apos) (e :: es) [] pos) X.env = (do
      let ov ← eval (.Name (clsT ci).name p) X.env
      standAt apos.atName
      let (f, first) ← holding [ov] (getMethod ov m pl)
      callWith pos f first (backTo pos (starEach (e :: es) X.env)) (backToKw pos (keywordEach [] X.env)))) :
    PE X (.Call (.Attribute (.Name (clsT ci).name p) m apos) (e :: es) [] pos) (tV c ret (fCm ci φ fs)) := by
  obtain ⟨⟨mc, pr, f, fd, ps, FF, cr, cm, hb⟩, g⟩ := M
  refine PE.imp (pe_cmethSD (pe_glob hg g (v := .ref (clsA X.K ci)) rfl hdb) cr cm FF (hr.mono hj) hb (fun σ => passAt tk σ) ha hst hpl ht) fun σ H Q h => ?_
  obtain ⟨F, δ, E, h⟩ := h
  refine ⟨rfl, tL.goV E h fun ds vs F1 H1 u1 E1 w h1 => ?_⟩
  refine ⟨F1, .cl ci :: ds, u1.fh, ⟨_, vs, rfl, ⟨[], Own.of_is (by simp only [Is])⟩, hK ▸ w⟩, ?_⟩
  cases r : φ (.cl ci :: ds) with
  | none => rw [r] at h1; exact h1
  | some r' =>
    rw [r] at h1
    cases r' with
    | ok d => exact hK ▸ h1
    | ex x => exact fun cls u dx F' H' rv up xr => h1 cls u dx F' H' rv up (hK ▸ xr)
end Ev

set_option maxHeartbeats 4000000
/-! Ev, part Za: fields by class; C(); the rest of the words. -/
namespace Ev
open PySem PySem.Spec PyProof.Rows L2
variable {X : Cx} {c : Cp} {F G H F' G' H' : Hp} {σ : L2.St} {δ : Env} {a b e tg : Expr} {es : List Expr} {pos p : Pos} {x : Str} {ta tb tc ty rt : Ty} {oa ob oc o : OT} {os : List OT} {fa fb fc : Env → Option R} {fs : Env → Option RL} {st : Stmt} {ss : List Stmt} {A A' : List Addr}
def fldC (ci j : Nat) : D → Option D
  | .ins k ds => if k = ci then ds[j]? else none
  | _ => none
def fFldC (ci j : Nat) (fa : EF) : EF := fun δ => bnd (fa δ) fun d => okO (fldC ci j d)
theorem e_fldC {ci j : Nat} {f : Str} (hK : X.K = c.K) (hc : ClsOk c.K ci) (hf : (clsT ci).fields[j]? = some f) (ha : PE X a (tV c ta fa)) (ca : coe ta .fz = true) (hb : attributeBase a f X.env (eval a X.env) = eval a X.env) :
    PE X (.Attribute a f pos) (tV c (.vw .fz) (fFldC ci j fa)) := by
  refine PE.imp (pe_fld ha hb) fun σ H Q h => ?_
  obtain ⟨F, δ, E, h⟩ := h
  refine tV.goV ca E h fun d v F1 H1 u1 E1 hx h1 => ?_
  obtain ⟨A, hx⟩ := hx
  obtain ⟨r, e, q⟩ := h1.okO
  cases d with
  | ins k ds =>
    simp only [fldC] at e
    by_cases g : k = ci
    · rw [if_pos g] at e
      subst g
      have hi := hx.is
      simp only [Is] at hi
      obtain ⟨p, dx, vs, rfl, hp, hl, hd⟩ := hi
      obtain ⟨w, hw, hiw⟩ := hd.get e
      exact ⟨p, clsA c.K k, dx, _, w, rfl, u1.fh _ _ hp, hK ▸ hc.1, hK ▸ hc.2 f (List.mem_of_getElem? hf), zip_look (clsT_nd k) hf hw, q w F1 H1 (Up.refl u1.fh) hiw⟩
    · rw [if_neg g] at e; cases e
  | _ => simp [fldC] at e
def fMake0 (ci : Nat) (φ : FnI) : EF := fun _ => okO (mkD ci φ [])
theorem e_make0 {ci k j : Nat} {φ : FnI} (M : MkC X.prog X.w X.K X.mg X.base ci k os 0 φ) (hr : Room j X.A) (hj : k + 1 ≤ j) (hK : X.K = c.K) (hg : Gl X (clsT ci).name) (tk : Takes X c.W) (hdb : ((clsT ci).name == ("__debug__" : Str)) = false) :
    PE X (.Call (.Name (clsT ci).name p) [] [] pos) (tV c (.fr (.ins os)) (fMake0 ci φ)) := by
  obtain ⟨⟨f, fd, ps, FF, hm, hb⟩, g⟩ := M
  refine PE.imp (pe_make0 hm FF (hr.mono hj) hg g hb .nil (passes_call (E := fun _ _ _ => False) tk fun _ _ _ _ h => h.elim) hdb) fun σ H Q h => ?_
  obtain ⟨F, δ, E, h⟩ := h
  change Gv c _ F H σ Q (okO (mkD ci φ [])) at h
  obtain ⟨s, es2, q⟩ := h.okT
  intro x0 dx hx hdx hne
  have sF : Same F H := E.fh
  have fx : F x0 = none := by
    cases z : F x0 with
    | none => rfl
    | some o => rw [sF _ _ z] at hx; cases hx
  have fdx : F dx = none := by
    cases z : F dx with
    | none => rfl
    | some o => rw [sF _ _ z] at hdx; cases hdx
  refine ⟨F, .ins ci [], .ref x0, [], [], [x0], rfl, rfl, fun b o z => ?_, ?_, by simp, fun b hb => ?_, by simp [IsL], ?_⟩
  · have n1 : b ≠ x0 := fun y => by rw [y, fx] at z; cases z
    have n2 : b ≠ dx := fun y => by rw [y, fdx] at z; cases z
    rw [upd_ne n1, upd_ne n2]; exact sF b o z
  · simp only [Own]
    exact ⟨x0, dx, [], [], rfl, by rw [upd_same]; simp, by simp, by simp [OwnS], rfl⟩
  · have : b = x0 := by simpa using hb
    rw [this]; exact fx
  · unfold mkD at es2
    cases e3 : φ (.ins ci []) [] with
    | none => rw [e3] at es2; cases es2
    | some r =>
      rw [e3] at es2
      cases r with
      | ex x0 s => cases es2
      | ok d s' =>
        cases d with
        | non =>
          cases es2
          intro v F2 H2 A' u ow iv
          refine ⟨by simpa only [Is] using iv, mk_post (K := c.K) hx hdx (by rw [hK]) sF u (hK ▸ ow) q⟩
        | _ => cases es2
/-- a name's object handed out, not to be changed any more -/
def sRetFz (i : Nat) : So := fun δ => bndS (evVar i δ) δ fun d => some (.ret d (δ.set i none))
theorem st_retFz {i : Nat} (n : Nm X.N X.env.scope i x) (hk : c.Ks[i]? = some (.ow o)) : PS X (.Return (some (.Name x p)) pos) (tS c (.vw .fz) (sRetFz i)) := by
  refine PS.imp (ps_ret (pe_var n.n n.v n.d n.cd)) fun D σ H h => ?_
  obtain ⟨F, δ, E, h⟩ := h
  change Gs c (.vw .fz) F D (bndS (evVar i δ) δ fun d => some (.ret d (δ.set i none))) at h
  unfold evVar at h
  cases e : δ[i]? with
  | none => rw [e] at h; exact h.elim
  | some q =>
    cases q with
    | none => rw [e] at h; exact h.elim
    | some d =>
      rw [e] at h
      obtain ⟨F', sF, E'⟩ := EnvOk.fzTo E hk
      have hi : i < c.Ks.length := (List.getElem?_eq_some_iff.mp hk).1
      obtain ⟨v, e1, A, ow⟩ := EnvOk.var E' (List.getElem?_set_self hi) e
      exact ⟨v, e1, h v σ F' H (EnvOk.fzBack E') ⟨A, ow⟩⟩
theorem st_bor' {i : Nat} {g : So} (hk : OwnK c.Ks i o) (hp : (c.Ks.set i (.ve .fz)).all Kd.pl = true) (h : ∀ v0 F0 G, PS X st (tS (c.bor i o v0 F0 G) rt g)) : PS X st (tS c rt (sBor i g)) := st_bor hk (plain_by hp) h
end Ev

set_option maxHeartbeats 4000000
/-! Ev, part Zb: displays with stars; tables of the module. -/
namespace Ev
open PySem PySem.Spec PyProof.Rows L2
variable {X : Cx} {c : Cp} {F G H F' G' H' : Hp} {σ : L2.St} {δ : Env} {a b e tg : Expr} {es : List Expr} {pos p : Pos} {x : Str} {ta tb tc ty rt : Ty} {oa ob oc o : OT} {os : List OT} {fa fb fc : Env → Option R} {fs : Env → Option RL} {st : Stmt} {ss : List Stmt} {A A' : List Addr}
/-! ### [a, *b] -/
def GlF (c : Cp) (F H : Hp) (σ : L2.St) (Q : List V → Hp → Prop) : Option RL → Prop
  | some (.ok ds) => ∀ vs F' H', Up F H F' H' → IsL c.K F' ds vs → Q vs H'
  | some (.ex x) => Bad c F H σ x
  | none => False
def tF (c : Cp) (f : EL) : TA := fun σ H Q => ∃ F δ, c.E F H σ δ ∧ GlF c F H σ Q (f δ)
def starL (r : Option R) (k : Option RL) : Option RL := match r with
  | some (.ok d) => (match d, k with
    | .lst xs, some (.ok ys) => some (.ok (xs ++ ys))
    | .tup xs, some (.ok ys) => some (.ok (xs ++ ys))
    | .lst _, some (.ex x) => some (.ex x)
    | .tup _, some (.ex x) => some (.ex x)
    | _, _ => none)
  | some (.ex x) => some (.ex x)
  | none => none
def lStar (fa : EF) (fs : EL) : EL := fun δ => starL (fa δ) (fs δ)
theorem f_nil : PA X [] (tF c lNil) := by
  refine PA.imp pa_nil fun σ H Q h => ?_
  obtain ⟨F, δ, E, h⟩ := h
  exact h [] F H (Up.refl E.fh) (by simp only [IsL])
theorem f_cons (he : PE X e (tV c ta fa)) (hr : PA X es (tF c fs)) (ca : coe ta .fz = true) (hs : starEach (e :: es) X.env = (false, eval e X.env) :: starEach es X.env) : PA X (e :: es) (tF c (lCons fa fs)) := by
  refine PA.imp (pa_cons he hr hs) fun σ H Q h => ?_
  obtain ⟨F, δ, E, h⟩ := h
  change GlF c F H σ Q (consL (fa δ) (fs δ)) at h
  refine ⟨F, δ, E, ?_⟩
  cases e1 : fa δ with
  | none => rw [e1] at h; exact h
  | some r =>
    rw [e1] at h
    cases r with
    | ex x => exact h
    | ok d =>
      intro v F1 H1 u p
      obtain ⟨F2, u2, s2, A, ow⟩ := p.coe u ca
      refine ⟨F2, δ, E.up u2, ?_⟩
      cases e2 : fs δ with
      | none => rw [e2] at h; exact h
      | some r =>
        rw [e2] at h
        cases r with
        | ex x => exact Bad.up h u2
        | ok ds => exact fun vs F3 H3 u3 w => h (v :: vs) F3 H3 (u2.trans u3) ⟨v, vs, rfl, ow.is.mono u3.ff, w⟩
theorem f_star {ps : Pos} (hK : X.K = c.K) (he : PE X e (tV c ta fa)) (hr : PA X es (tF c fs)) (ca : coe ta .fz = true) (hs : starEach (.Starred e ps :: es) X.env = (true, eval e X.env) :: starEach es X.env) : PA X (.Starred e ps :: es) (tF c (lStar fa fs)) := by
  refine PA.imp (StX.pa_star he hr hs) fun σ H Q h => ?_
  obtain ⟨F, δ, E, h⟩ := h
  change GlF c F H σ Q (starL (fa δ) (fs δ)) at h
  refine ⟨F, δ, E, ?_⟩
  cases e1 : fa δ with
  | none => rw [e1] at h; exact h
  | some r =>
    rw [e1] at h
    cases r with
    | ex x => exact h
    | ok d =>
      intro v F1 H1 u p
      obtain ⟨F2, u2, s2, A, ow⟩ := p.coe u ca
      have go : ∀ xs vs0, IsL c.K F2 xs vs0 → GlF c F H σ Q (match fs δ with | some (.ok ys) => some (.ok (xs ++ ys)) | some (.ex x) => some (.ex x) | none => none) → tF c fs σ H1 fun ys H2 => Q (vs0 ++ ys) H2 := fun xs vs0 hi h => by
        refine ⟨F2, δ, E.up u2, ?_⟩
        cases e2 : fs δ with
        | none => rw [e2] at h; exact h
        | some r =>
          rw [e2] at h
          cases r with
          | ex x => exact Bad.up h u2
          | ok ds => exact fun vs F3 H3 u3 w => h (vs0 ++ vs) F3 H3 (u2.trans u3) ((hi.mono u3.ff).append w)
      cases d with
      | lst xs =>
        have q := ow.is
        simp only [Is] at q
        obtain ⟨p0, vs0, rfl, hp, hi⟩ := q
        refine ⟨p0, vs0, rfl, .inr (SqL.of (u2.fh _ _ hp)), go xs vs0 hi ?_⟩
        cases e2 : fs δ with
        | none => rw [e2] at h; exact h
        | some r => rw [e2] at h; cases r <;> exact h
      | tup xs =>
        have q := ow.is
        simp only [Is] at q
        obtain ⟨p0, vs0, rfl, hp, hi⟩ := q
        refine ⟨p0, vs0, rfl, .inl (SqT.of (u2.fh _ _ hp)), go xs vs0 hi ?_⟩
        cases e2 : fs δ with
        | none => rw [e2] at h; exact h
        | some r => rw [e2] at h; cases r <;> exact h
      | _ => exact h.elim
def fLstF (fs : EL) : EF := fun δ => bndL (fs δ) fun ds => if ds.length ≤ 1000 then some (.ok (.lst ds)) else none
theorem s_lstF (he : PA X es (tF c fs)) : PE X (.List es pos) (tV c (.fr (.lst .fz)) (fLstF fs)) := by
  refine PE.imp (pe_lst he) fun σ H Q h => ?_
  obtain ⟨F, δ, E, h⟩ := h
  refine ⟨F, δ, E, ?_⟩
  change Gv c _ F H σ Q (bndL (fs δ) fun ds => if ds.length ≤ 1000 then some (.ok (.lst ds)) else none) at h
  cases e2 : fs δ with
  | none => rw [e2] at h; exact h
  | some r =>
    rw [e2] at h
    cases r with
    | ex x => exact h
    | ok ds =>
      have h : Gv c _ F H σ Q (if ds.length ≤ 1000 then some (.ok (.lst ds)) else none) := h
      by_cases g : ds.length ≤ 1000
      · rw [if_pos g] at h
        intro vs F1 H1 u w
        exact ⟨by rw [w.length]; exact Nat.le_trans g (by decide), fun l hl => h _ F1 _ (u.trans (Up.new u.fh hl)) (Post.up u.hh (fresh_lst u.fh hl w))⟩
      · rw [if_neg g] at h; exact h.elim
end Ev

set_option maxHeartbeats 4000000
/-! Ev, part Zc: a table of the module (texts to whole numbers). -/
namespace Ev
open PySem PySem.Spec PyProof.Rows L2
variable {X : Cx} {c : Cp} {F G H F' G' H' : Hp} {σ : L2.St} {δ : Env} {a b e tg : Expr} {es : List Expr} {pos p : Pos} {x : Str} {ta tb tc ty rt : Ty} {oa ob oc o : OT} {os : List OT} {fa fb fc : Env → Option R} {fs : Env → Option RL}
/-- at the name x of the module: this table -/
def TabOk (K : PySem.W.Frag) (w : World) (mg : Str → Option Value) (x : Str) (kvs : List (Str × Int)) : Prop := ∃ a es n, mg x = some (.ref a) ∧ KDict K w a es n ∧
  ∀ z : Str, (∃ i u, kvs.lookup z = some i ∧ PySem.W.nsIn K a z = some (some u) ∧ RelV (.int i) u) ∨ (kvs.lookup z = none ∧ PySem.W.nsIn K a z = some none)
theorem nsIn_keys {K : PySem.W.Frag} {P : Params} {a : Addr} {ks : List Str} (h : He.dicW K a = some (He.keysIn P ks)) {z : Str} (hz : z ∉ ks) : PySem.W.nsIn K a z = some none := by
  unfold He.dicW at h
  unfold PySem.W.nsIn
  cases q : K.lookup a with
  | none => rw [q] at h; cases h
  | some o =>
    obtain ⟨oc, od, dt, osl⟩ := o
    rw [q] at h
    cases oc with
    | type cn =>
      cases od with
      | none =>
        cases dt with
        | dict es n =>
          have h1 : (match decide (cn = "dict") && (osl.isEmpty && !(a == sysModules)) with
            | true => some (es.toList.map He.keyOf)
            | false => none) = some (He.keysIn P ks) := h
          split at h1
          · have h2 := Option.some.inj h1
            have key : ∀ e ∈ es.toList, ∃ k t, k ∈ ks ∧ e.key = .str k t := fun e he => by
              have : He.keyOf e ∈ He.keysIn P ks := by rw [← h2]; exact List.mem_map_of_mem he
              unfold He.keysIn at this
              obtain ⟨k, hk, e2⟩ := List.mem_map.mp this
              unfold He.keyOf at e2
              split at e2
              · rename_i x t q
                obtain ⟨h5, _⟩ := Prod.mk.inj (Option.some.inj e2)
                subst h5
                exact ⟨k, t, hk, q⟩
              · cases e2
            have f1 : es.toList.find? (·.key.isStr z) = none := by
              rw [List.find?_eq_none]
              intro e he
              obtain ⟨k, t, hk, e2⟩ := key e he
              rw [e2]
              show ¬ ((k == z) = true)
              intro hh
              exact hz ((beq_iff_eq.mp hh) ▸ hk)
            have f2 : es.toList.any (·.refKey) = false := by
              rw [List.any_eq_false]
              intro e he
              obtain ⟨k, t, hk, e2⟩ := key e he
              unfold DictEntry.refKey
              rw [e2]
              simp
            show (match es.toList.find? (·.key.isStr z) with
              | some e => some (some e.val)
              | none => if es.toList.any (·.refKey) then none else some none) = some none
            rw [f1]
            show (if es.toList.any (·.refKey) then none else some none) = some none
            rw [f2]; rfl
          · cases h1
        | _ => cases h
      | some b => cases dt <;> cases h
    | _ => cases od <;> cases dt <;> cases h
theorem lookup_mem {z : Str} {i : Int} : ∀ {kvs : List (Str × Int)}, kvs.lookup z = some i → (z, i) ∈ kvs
  | [], h => by simp at h
  | (k, j) :: r, h => by
    rw [List.lookup_cons] at h
    by_cases q : z = k
    · subst q
      simp at h
      subst h
      simp
    · have : (z == k) = false := beq_eq_false_iff_ne.mpr q
      rw [this] at h
      exact List.mem_cons_of_mem _ (lookup_mem h)
theorem lookup_nmem {z : Str} : ∀ {kvs : List (Str × Int)}, kvs.lookup z = none → z ∉ kvs.map (·.1)
  | [], h => by simp
  | (k, j) :: r, h => by
    rw [List.lookup_cons] at h
    by_cases q : z = k
    · subst q
      simp at h
    · have : (z == k) = false := beq_eq_false_iff_ne.mpr q
      rw [this] at h
      have := lookup_nmem h
      simp only [List.map_cons, List.mem_cons, not_or]
      exact ⟨q, this⟩
theorem tab_ok {K : PySem.W.Frag} {w : World} {mg : Str → Option Value} {x : Str} {a : Addr} {kvs : List (Str × Int)} (hm : mg x = some (.ref a)) (h1 : He.dicW K a = some (He.keysIn w.params (kvs.map (·.1)))) (h2 : He.valsB K a (kvs.map fun q => (q.1, He.Dv.int q.2)) = true) : TabOk K w mg x kvs := by
  obtain ⟨es, n, D⟩ := He.dicW_ok h1
  refine ⟨a, es, n, hm, D, fun z => ?_⟩
  cases e : kvs.lookup z with
  | none => exact .inr ⟨rfl, nsIn_keys h1 (lookup_nmem e)⟩
  | some i =>
    obtain ⟨u, hu, r⟩ := He.valsB_ok h2 (q := (z, He.Dv.int i)) (List.mem_map.mpr ⟨(z, i), lookup_mem e, rfl⟩)
    exact .inl ⟨i, u, rfl, hu, r⟩
def inT (neg : Bool) (kvs : List (Str × Int)) (d : D) : Option Bool := match d with
  | .str z => some (if neg then !(kvs.lookup z).isSome else (kvs.lookup z).isSome)
  | _ => none
def fInT (neg : Bool) (kvs : List (Str × Int)) (fa : EF) : EF := fun δ => bnd (fa δ) fun d => okB (inT neg kvs d)
def ixT (kvs : List (Str × Int)) (d : D) : Option D := match d with
  | .str z => (kvs.lookup z).map D.int
  | _ => none
def fIxT (kvs : List (Str × Int)) (fa : EF) : EF := fun δ => bnd (fa δ) fun d => okO (ixT kvs d)
theorem op_inT {X : Cx} {kvs : List (Str × Int)} {a0 : Addr} {es : Array DictEntry} {n : Nat} (neg : Bool) (D : KDict X.K X.w a0 es n) (hz : ∀ z : Str, (∃ i u, kvs.lookup z = some i ∧ PySem.W.nsIn X.K a0 z = some (some u) ∧ RelV (.int i) u) ∨ (kvs.lookup z = none ∧ PySem.W.nsIn X.K a0 z = some none)) :
    OpR X (compareOp (opIn neg)) fun x y H Q => ∃ (z : Str) (k : Bool), x = .str z ∧ y = .ref a0 ∧ inT neg kvs (.str z) = some k ∧ Q (.bl k) H := by
  intro pins s σ H x y v u Q I rx ry h
  obtain ⟨z, k, rfl, rfl, e, q⟩ := h
  have hr : ∃ r : Option Value, PySem.W.nsIn X.K a0 z = some r ∧ r.isSome = (kvs.lookup z).isSome := by
    rcases hz z with ⟨i, u, e1, e2, _⟩ | ⟨e1, e2⟩
    · exact ⟨some u, e2, by rw [e1]; rfl⟩
    · exact ⟨none, e2, by rw [e1]; rfl⟩
  obtain ⟨r, er, es⟩ := hr
  cases neg with
  | false =>
    have e : some (kvs.lookup z).isSome = some k := e
    cases e
    exact op_in_kd D pins s σ H _ _ v u Q I rx ry ⟨z, r, rfl, rfl, er, by rw [es]; exact q⟩
  | true =>
    have e : some (!(kvs.lookup z).isSome) = some k := e
    cases e
    exact op_notIn_kd D pins s σ H _ _ v u Q I rx ry ⟨z, r, rfl, rfl, er, by rw [es]; exact q⟩
theorem t_inT {neg : Bool} {o : CmpOp} {kvs : List (Str × Int)} (T : TabOk X.K X.w X.mg x kvs) (eo : o = opIn neg) (ha : PE X a (tV c ta fa)) (ca : coe ta .bw = true) (hg : Gl X x) (hdb : (x == ("__debug__" : Str)) = false) (hm : behindInMarks (opIn neg) (.Name x p) = false) :
    PT X (.Compare a [o] [.Name x p] pos) (tT c (fInT neg kvs fa)) := by
  subst eo
  obtain ⟨a0, es, n, hx, D, hz⟩ := T
  refine PT.imp (pt_cmpR (op_inT neg D hz) ha (pe_glob hg hx (v := .ref a0) rfl hdb) hm) fun σ H Q h => ?_
  obtain ⟨F, δ, E, h⟩ := h
  refine tV.goT ca E h fun d v F1 H1 u1 E1 ⟨A, hx⟩ h1 => ?_
  cases d with
  | str z =>
    obtain ⟨k, e, q⟩ := h1.okB
    exact ⟨z, k, hx.strV.1, rfl, e, k, rfl, q F1 H1 (Up.refl u1.fh)⟩
  | _ => exact h1.elim
theorem s_inT {neg : Bool} {o : CmpOp} {kvs : List (Str × Int)} (T : TabOk X.K X.w X.mg x kvs) (eo : o = opIn neg) (ha : PE X a (tV c ta fa)) (ca : coe ta .bw = true) (hg : Gl X x) (hdb : (x == ("__debug__" : Str)) = false) (hm : behindInMarks (opIn neg) (.Name x p) = false) :
    PE X (.Compare a [o] [.Name x p] pos) (tV c (.vw .fz) (fInT neg kvs fa)) := by
  subst eo
  obtain ⟨a0, es, n, hx, D, hz⟩ := T
  refine PE.imp (pe_cmpR (op_inT neg D hz) ha (pe_glob hg hx (v := .ref a0) rfl hdb) hm) fun σ H Q h => ?_
  obtain ⟨F, δ, E, h⟩ := h
  refine tV.goV ca E h fun d v F1 H1 u1 E1 ⟨A, hx⟩ h1 => ?_
  cases d with
  | str z =>
    obtain ⟨k, e, q⟩ := h1.okB
    exact ⟨z, k, hx.strV.1, rfl, e, q F1 H1 (Up.refl u1.fh)⟩
  | _ => exact h1.elim
/-- TAB[e] -/
theorem s_ixT {kvs : List (Str × Int)} (T : TabOk X.K X.w X.mg x kvs) (ha : PE X a (tV c ta fa)) (ca : coe ta .bw = true) (hg : Gl X x) (hdb : (x == ("__debug__" : Str)) = false) (hs : NoSl a) :
    PE X (.Subscript (.Name x p) a pos) (tV c (.vw .fz) (fIxT kvs fa)) := by
  obtain ⟨a0, es, n, hx, D, hz⟩ := T
  refine ⟨fun pins s σ H Q I h => ?_⟩
  refine subD_of PySem.F.slot_dict_getitem.lookup hs (thn ((pe_glob (X := X) (pos := p) hg hx (v := .ref a0) rfl hdb).run pins s σ H (fun v H1 => v = .ref a0 ∧ tV c ta fa σ H1 fun y H2 => ∃ z i u, y = .str z ∧ PySem.W.nsIn X.K a0 z = some (some u) ∧ RelV (.int i) u ∧ Q (.int i) H2) I ?_) fun u s1 ⟨x1, H1, I1, rx, e1, q1⟩ => ?_)
  · refine ⟨rfl, ?_⟩
    obtain ⟨F, δ, E, h⟩ := h
    refine tV.goV ca E h fun d v F1 H1 u1 E1 ⟨A, hx⟩ h1 => ?_
    cases d with
    | str z =>
      obtain ⟨r, e, q⟩ := h1.okO
      have e : (kvs.lookup z).map Ev.D.int = some r := e
      rcases hz z with ⟨i, u, e1, e2, r2⟩ | ⟨e1, e2⟩
      · rw [e1] at e; cases e
        exact ⟨z, i, u, hx.strV.1, e2, r2, q _ F1 H1 (Up.refl u1.fh) (by simp only [Is])⟩
      · rw [e1] at e; cases e
    | _ => exact h1.elim
  · subst e1
    obtain rfl : u = Value.ref a0 := rx
    refine thn (ha.run pins s1 σ H1 _ I1 q1) fun iv s2 ⟨y, H2, I2, ry, z, i, u, ey, e2, r2, q⟩ => ?_
    exact ⟨kd_type D I2, op_item_kd D pins s2 σ H2 (.ref a0) y (.ref a0) iv Q I2 rfl ry ⟨z, u, .int i, rfl, ey, e2, r2, q⟩⟩
end Ev

set_option maxHeartbeats 4000000
/-! Ev, part Hk: the head's hook for classes, properties, classmethods, tables. -/
namespace Ev
open PySem PySem.Spec PyProof.Rows L2
theorem funA {K : PySem.W.Frag} {kd : String} {a : Addr} {d : He.DefD} (hk : kd ≠ "init") (e : fnA K kd a = d.val) (c : okA K a d = true) : ∃ fd, FunD K d.name d.qual d.params d.body d.scope (d.dvs K) (d.kws K) a fd := by
  obtain ⟨kp, c2⟩ := He.ba c
  unfold fnA at e
  cases q : K.lookup a with
  | none => rw [q] at c2; cases c2
  | some o =>
    obtain ⟨oc, od, dt, osl⟩ := o
    rw [q] at c2 e
    cases dt with
    | func fd =>
      obtain ⟨n1, n2, n3, n4, n5, n6, n7, n8, n9, n10, n11, n12, n13, n14, n15⟩ := fd
      have e1 : (some (n1, n2, n3, n4, n5, n6, if kd = "init" then [] else n7, n15) : He.FnW) = some (d.name, d.qual, d.params, .stmts d.body, d.scope, mainGlobals, [], builtinsNs) := e
      rw [if_neg hk] at e1
      have e2 : (some (n1, n2, n3, n4, n5, n6, n7, n15) : He.FnW) = some (d.name, d.qual, d.params, .stmts d.body, d.scope, mainGlobals, [], builtinsNs) := e1
      simp only [Option.some.injEq, Prod.mk.injEq] at e2
      obtain ⟨h1, h2, h3, h4, h5, h6, h7, h8⟩ := e2
      subst h1 h2 h3 h4 h5 h6 h7 h8
      have c3 : (PySem.W.codeIn K n13 d.qual && (He.dflB K n8 (d.dvs K) && He.kwdB K n9 (d.kws K))) = true := c2
      obtain ⟨k1, k2⟩ := He.ba c3
      obtain ⟨k3, k4⟩ := He.ba k2
      exact ⟨_, ⟨oc, od, n8, n9, n10, n11, n12, n13, n14, osl, rfl, q, k1, He.dflB_ok k3, He.kwdB_ok k4⟩, kp⟩
    | _ => cases c2
section
variable {fa : List He.Fa} {fn : List He.DefD} {ts : List He.Tab} {pf : List PfD} {ex : PySem.W.Frag → Bool} {w : World} {K : PySem.W.Frag}
theorem SaysH.t (c : SaysH fa fn ts pf ex w K) : He.SaysT fa fn ts w K := congrArg (fun z : AlH => z.1) c
theorem SaysH.d (c : SaysH fa fn ts pf ex w K) : He.SaysD fa fn K := c.t.d
theorem SaysH.x (c : SaysH fa fn ts pf ex w K) : ex K = true := (He.ba (show ((pf.all fun q => okA K (q.addr K) q.d) && ex K) = true from congrArg (fun z : AlH => z.2.1) c)).2
theorem SaysH.p (c : SaysH fa fn ts pf ex w K) (i : Nat) {q : PfD} (h : pf[i]? = some q) (hk : q.kind ≠ "init") : ∃ fd, FunD K q.d.name q.d.qual q.d.params q.d.body q.d.scope (q.d.dvs K) (q.d.kws K) (q.addr K) fd := by
  have c1 := (He.ba (show ((pf.all fun q => okA K (q.addr K) q.d) && ex K) = true from congrArg (fun z : AlH => z.2.1) c)).1
  have c2 : (pf.map fun q => fnA K q.kind (q.addr K)) = pf.map fun q => q.d.val := congrArg (fun z : AlH => z.2.2) c
  have c3 : (pf.map fun q => fnA K q.kind (q.addr K))[i]? = (pf.map fun q => q.d.val)[i]? := by rw [c2]
  rw [List.getElem?_map, List.getElem?_map, h] at c3
  exact funA hk (Option.some.inj c3) (List.all_eq_true.mp c1 q (List.mem_of_getElem? h))
/-- the function of an error's __init__: all but its closure -/
theorem SaysH.i (c : SaysH fa fn ts pf ex w K) (i : Nat) {q : PfD} (h : pf[i]? = some q) (hk : q.kind = "init") : PySem.W.keepIn K (.ref (He.ma K (He.ga K q.cls) q.meth)) = true ∧ ∃ (oc : Value) (od : Option Addr) (osl : Array (Option Value)) (fd : FuncData), K.lookup (He.ma K (He.ga K q.cls) q.meth) = some ⟨oc, od, .func fd, osl⟩ ∧ fd.name = q.d.name ∧ fd.qualname = q.d.qual ∧ fd.params = q.d.params ∧ fd.body = .stmts q.d.body ∧ fd.scope = q.d.scope ∧ fd.globals = mainGlobals ∧ fd.builtins = builtinsNs ∧
    PySem.W.codeIn K fd.code q.d.qual = true ∧ He.dflB K fd.defaults (q.d.dvs K) = true ∧ He.kwdB K fd.kwdefaults (q.d.kws K) = true := by
  have c1 := (He.ba (show ((pf.all fun q => okA K (q.addr K) q.d) && ex K) = true from congrArg (fun z : AlH => z.2.1) c)).1
  have c2 : (pf.map fun q => fnA K q.kind (q.addr K)) = pf.map fun q => q.d.val := congrArg (fun z : AlH => z.2.2) c
  have c3 : (pf.map fun q => fnA K q.kind (q.addr K))[i]? = (pf.map fun q => q.d.val)[i]? := by rw [c2]
  rw [List.getElem?_map, List.getElem?_map, h] at c3
  have e : fnA K q.kind (q.addr K) = q.d.val := Option.some.inj c3
  obtain ⟨kp, c4⟩ := He.ba (show okA K (q.addr K) q.d = true from List.all_eq_true.mp c1 q (List.mem_of_getElem? h))
  have ea : q.addr K = He.ma K (He.ga K q.cls) q.meth := if_pos hk
  rw [← ea]
  refine ⟨kp, ?_⟩
  unfold fnA at e
  cases z : K.lookup (q.addr K) with
  | none => rw [z] at c4; cases c4
  | some o =>
    obtain ⟨oc, od, dt, osl⟩ := o
    rw [z] at c4 e
    cases dt with
    | func fd =>
      have e2 : (some (fd.name, fd.qualname, fd.params, fd.body, fd.scope, fd.globals, if q.kind = "init" then [] else fd.closure, fd.builtins) : He.FnW) = some (q.d.name, q.d.qual, q.d.params, .stmts q.d.body, q.d.scope, mainGlobals, [], builtinsNs) := e
      simp only [Option.some.injEq, Prod.mk.injEq] at e2
      obtain ⟨h1, h2, h3, h4, h5, h6, _, h8⟩ := e2
      have c5 : (PySem.W.codeIn K fd.code q.d.qual && (He.dflB K fd.defaults (q.d.dvs K) && He.kwdB K fd.kwdefaults (q.d.kws K))) = true := c4
      obtain ⟨k1, k2⟩ := He.ba c5
      obtain ⟨k3, k4⟩ := He.ba k2
      exact ⟨oc, od, osl, fd, rfl, h1, h2, h3, h4, h5, h6, h8, k1, k3, k4⟩
    | _ => cases c4
theorem SaysH.dic (c : SaysH fa fn ts pf ex w K) (i : Nat) {t : He.Tab} (h : ts[i]? = some t) : He.dicW K (t.1 K) = some (He.keysIn w.params t.2) := by
  have e : ts.map (fun t => He.dicW K (t.1 K)) = ts.map fun t => some (He.keysIn w.params t.2) := congrArg (fun z : He.AlT => z.2) c.t
  have e2 : (ts.map fun t => He.dicW K (t.1 K))[i]? = (ts.map fun t => some (He.keysIn w.params t.2))[i]? := by rw [e]
  rw [List.getElem?_map, List.getElem?_map, h] at e2
  exact Option.some.inj e2
end
/-! ### facts of one's own -/
theorem rec_some {K : PySem.W.Frag} {C m : Str} {T : String} (h : (match PySem.W.recIn K (He.ma K (He.ga K C) m) T with
    | some (.ref _ :: _) => true
    | _ => false) = true) : ∃ rest, PySem.W.recIn K (He.ma K (He.ga K C) m) T = some (.ref (recA K C m T) :: rest) := by
  unfold recA
  split at h
  · rename_i g rest e
    rw [e]
    exact ⟨rest, rfl⟩
  · cases h
theorem propB_ok {K : PySem.W.Frag} {C m : Str} (h : propB K C m = true) : PropOf K (He.ga K C) m (He.ma K (He.ga K C) m) (recA K C m "property") := by
  obtain ⟨h1, h2⟩ := He.ba h
  obtain ⟨h2, h3⟩ := He.ba h2
  obtain ⟨h3, h4⟩ := He.ba h3
  exact ⟨He.eqO_ok h1, He.eqO_ok h2, of_decide_eq_true h3, rec_some h4⟩
theorem creadB_ok {K : PySem.W.Frag} {C : Str} (h : creadB K C = true) : ClX.CRead K (He.ga K C) (.type "type") := by
  obtain ⟨h1, h2⟩ := He.ba h
  exact ⟨h1, He.eqO_ok h2⟩
theorem cmetB_ok {K : PySem.W.Frag} {C m : Str} (h : cmetB K C m = true) : ClX.CMet K (He.ga K C) (.type "type") m (He.ma K (He.ga K C) m) (recA K C m "classmethod") := by
  obtain ⟨h1, h2⟩ := He.ba h
  obtain ⟨h2, h3⟩ := He.ba h2
  refine ⟨?_, rec_some h2, h3⟩
  split at h1
  · rename_i s p D e
    obtain ⟨rfl, rfl, rfl⟩ := of_decide_eq_true h1
    exact e
  · cases h1
/-- an own class whose fields are known -/
theorem clsOk_of {K : PySem.W.Frag} {ci : Nat} (h : Cls K (clsA K ci)) (hf : ∀ f ∈ (clsT ci).fields, NoAttr K (clsA K ci) f) : ClsOk K ci := ⟨h, hf⟩
end Ev

set_option maxHeartbeats 4000000
/-! Ev, part Zd: list(zip(a, b)). -/
namespace Ev
open PySem PySem.Spec PyProof.Rows L2
variable {X : Cx} {c : Cp} {F G H F' G' H' : Hp} {σ : L2.St} {δ : Env} {a b e tg : Expr} {es : List Expr} {pos p zp zpos : Pos} {x : Str} {fs : Env → Option RL}
def lzD (l : List D) : Option D := (zipD l).map D.lst
def fLz (fs : EL) : EF := fun δ => bndL (fs δ) fun ds => okO (lzD ds)
theorem lz_isL {K : PySem.W.Frag} {F F2 : Hp} (s : Same F F2) : ∀ {ds es : List D} {vs ws : List V} {ts : List Addr}, IsL K F ds vs → IsL K F es ws → Paired (fun (t : Addr) (q : V × V) => F2 t = some (.tup [q.1, q.2])) ts (vs.zip ws) → IsL K F2 (zipL ds es) (ts.map V.ref)
  | [], es, vs, ws, ts, hi, hj, hp => by
    simp only [IsL] at hi
    subst hi
    cases hp
    simp [zipL, IsL]
  | x :: ds, [], vs, ws, ts, hi, hj, hp => by
    simp only [IsL] at hj
    subst hj
    rw [List.zip_nil_right] at hp
    cases hp
    simp [zipL, IsL]
  | x :: ds, y :: es, vs, ws, ts, hi, hj, hp => by
    simp only [IsL] at hi hj
    obtain ⟨v, r, rfl, hv, hi⟩ := hi
    obtain ⟨w, r', rfl, hw, hj⟩ := hj
    rw [List.zip_cons_cons] at hp
    cases hp with
    | cons h t =>
      simp only [zipL, IsL, List.map_cons]
      refine ⟨_, _, rfl, ?_, lz_isL s hi hj t⟩
      simp only [Is]
      exact ⟨_, _, rfl, h, v, [w], rfl, hv.mono s, w, [], rfl, hw.mono s, rfl⟩
theorem lz_fin {vs ws : List V} {ds es : List D} {Q : VK} (u : Same F H) (hi : IsL c.K F ds vs) (hj : IsL c.K F es ws) (h : ∀ v F' H', Up F H F' H' → Post c.K H F' H' (.fr (.lst .fz)) (.lst (zipL ds es)) v → Q v H') :
    ∀ (H' : Hp) (p : Addr) (ts : List Addr), (∀ b o, H b = some o → H' b = some o) → H p = none → (∀ t ∈ ts, H t = none) → p ∉ ts → H' p = some (.lst (ts.map V.ref)) → Paired (fun (t : Addr) (q : V × V) => H' t = some (.tup [q.1, q.2])) ts (vs.zip ws) → Q (.ref p) H' := by
  intro H' p ts k1 k2 k3 k4 k5 k6
  have nF : ∀ b, H b = none → F b = none := fun b hb => by
    cases q : F b with
    | none => rfl
    | some o => rw [u _ _ q] at hb; cases hb
  have up : Up F H (fun b => if b ∈ ts then H' b else F b) H' := by
    refine ⟨fun b o e => ?_, k1, fun a e1 e2 => ?_, fun b o e => ?_⟩
    · show (if b ∈ ts then H' b else F b) = some o
      rw [if_neg (fun z => by rw [nF b (k3 b z)] at e; cases e)]
      exact e
    · show (if a ∈ ts then H' a else F a) = none
      rw [if_neg (fun z => e2 (k3 a z))]
      exact e1
    · by_cases z : b ∈ ts
      · have e : (if b ∈ ts then H' b else F b) = some o := e
        rwa [if_pos z] at e
      · have e : (if b ∈ ts then H' b else F b) = some o := e
        rw [if_neg z] at e
        exact k1 _ _ (u _ _ e)
  have k7 : Paired (fun (t : Addr) (q : V × V) => (fun b => if b ∈ ts then H' b else F b) t = some (.tup [q.1, q.2])) ts (vs.zip ws) := by
    have gen : ∀ {ts' : List Addr} {qs : List (V × V)}, (∀ t ∈ ts', t ∈ ts) → Paired (fun (t : Addr) (q : V × V) => H' t = some (.tup [q.1, q.2])) ts' qs → Paired (fun (t : Addr) (q : V × V) => (fun b => if b ∈ ts then H' b else F b) t = some (.tup [q.1, q.2])) ts' qs := by
      intro ts' qs hs hp
      induction hp with
      | nil => exact .nil
      | cons h t ih => exact .cons (by show (if _ ∈ ts then _ else _) = _; rw [if_pos (hs _ List.mem_cons_self)]; exact h) (ih fun t ht => hs t (List.mem_cons_of_mem _ ht))
    exact gen (fun _ h => h) k6
  refine h _ _ _ up ⟨[p], ?_, by simp, fun a ha => ?_⟩
  · simp only [Own]
    exact ⟨p, _, [], rfl, k5, OwnL.of_fz (lz_isL up.ff hi hj k7), rfl⟩
  · have e : a = p := by simpa using ha
    subst e
    refine ⟨k2, ?_⟩
    show (if a ∈ ts then H' a else F a) = none
    rw [if_neg k4]
    exact nF _ k2
theorem s_lz (hc : X.calm = true) (hK : X.K = c.K) (ha : PA X [a, b] (tL c [.fz, .fz] fs)) (hg : Gl X "list") (hm : X.mg "list" = none) (hv : bootBuiltins "list" = some (.type "list")) (hgz : Gl X "zip") (hmz : X.mg "zip" = none)
    (hs : starEach [.Call (.Name "zip" zp) [a, b] [] zpos] X.env = (false, eval (.Call (.Name "zip" zp) [a, b] [] zpos) X.env) :: starEach [] X.env)
    (hs2 : starEach [a, b] X.env = (false, eval a X.env) :: starEach [b] X.env) (hpl : (backTo zpos (starEach [b] X.env)).any (·.1) = false) :
    PE X (.Call (.Name "list" p) [.Call (.Name "zip" zp) [a, b] [] zpos] [] pos) (tV c (.fr (.lst .fz)) (fLz fs)) := by
  refine PE.imp (ZH.pe_listZip hc ha hg hm hv hgz hmz hs hs2 hpl) fun σ H Q h => ?_
  obtain ⟨F, δ, E, h⟩ := h
  refine tL.goV E h fun ds vs F1 H1 u1 E1 w h1 => ?_
  obtain ⟨d1, d2, v1, v2, A, B, rfl, rfl, o1, o2⟩ := view2 w
  have i1 := o1.is
  have i2 := o2.is
  obtain ⟨d, e, q⟩ := h1.okT
  cases d1 with
  | lst ds =>
    cases d2 with
    | lst es =>
      cases e
      simp only [Is] at i1 i2
      obtain ⟨p, vs, rfl, hp, hi⟩ := i1
      obtain ⟨q', ws, rfl, hq, hj⟩ := i2
      exact ⟨p, q', vs, ws, rfl, .inl ⟨SqL.of (u1.fh _ _ hp), SqL.of (u1.fh _ _ hq)⟩, lz_fin u1.fh hi hj q⟩
    | _ => simp [lzD, zipD] at e
  | tup ds =>
    cases d2 with
    | tup es =>
      cases e
      simp only [Is] at i1 i2
      obtain ⟨p, vs, rfl, hp, hi⟩ := i1
      obtain ⟨q', ws, rfl, hq, hj⟩ := i2
      exact ⟨p, q', vs, ws, rfl, .inr ⟨SqT.of (u1.fh _ _ hp), SqT.of (u1.fh _ _ hq)⟩, lz_fin u1.fh hi hj q⟩
    | _ => simp [lzD, zipD] at e
  | _ => simp [lzD, zipD] at e
end Ev

set_option maxHeartbeats 4000000
/-! Ev, part Xi: an own exception class's __init__ that says super().__init__("..") and then self.f = f. -/
namespace Ev
open PySem PySem.Spec PySem.W PySem.Calls PyProof.Rows L2 NdefX OEX
/-- the facts of such an __init__: f its function, D its class, cc the cell of __class__, cda its code -/
structure IniK (P : Program) (K : PySem.W.Frag) (D f cc cda : Addr) (name qual : Str) (params : Arguments) (body : List Stmt) (scope : Scope) (fd : FuncData) : Prop where
  lk : ∃ oc od osl, K.lookup f = some ⟨oc, od, .func fd, osl⟩
  fdv : ∃ dV kV doc pm ct, fd = ksFn name qual params body scope dV kV doc pm none (.ref cda) ct cc
  cd : PySem.W.codeIn K (.ref cda) qual = true
  file : ∃ ccl cdd vs ccs file tf, K.lookup cda = some ⟨ccl, cdd, .fields vs, ccs⟩ ∧ vs[2]? = some (.str file tf) ∧ ((P.main.file : Str) == file) = true
  cell : ∃ cl cld csl, K.lookup cc = some ⟨cl, cld, .cell (some (.ref D)), csl⟩
  top : (P.main.scope.names.lookup ("super" : Str)).isSome = false
  sup : PySem.W.nsIn K mainGlobals "super" = some none
  opq : PySem.W.nsIn K cStatics "thirdparty.any" = some none
  cls : ∃ cd, PySem.W.clsIn K D = some cd
/-- what a class that is made by it must be -/
structure IniC (K : PySem.W.Frag) (D C : Addr) (flds : List Str) : Prop where
  ox : OexC K C
  sup : PySem.W.ks_superIn K C D "__init__" = some (some (.builtin "ValueError.__init__"))
  sub : PySem.W.mroIn K C (.ref D) = some true
  ve : PySem.W.subIn K (.ref C) (.type "ValueError") = some true
  fl : ∀ f ∈ flds, PySem.W.findIn K (.ref C) f = some none
abbrev iniF (name qual : Str) (params : Arguments) (body : List Stmt) (scope : Scope) (cc cda : Addr) : NF := ⟨name, qual, params, body, scope, [("__class__", cc)], cda⟩
theorem ini_run {CX : CXT} {P : Program} {w : World} {K : PySem.W.Frag} {mg : Str → Option Value} {base : Heap} {k : Nat} {D f cc cda : Addr} {name qual : Str} {params : Arguments} {body : List Stmt} {scope : Scope} {fd : FuncData} {N ps flds : List Str} {sp : Sp}
    {p0 p1 p2 pos p4 : Pos} {z1 : Str} {j1 : Nat} {p3 : Pos} {rest : List Stmt} {ar : Arg}
    (IK : IniK P K D f cc cda name qual params body scope fd) (S : NScope N (ar.arg :: ps) ["__class__"] scope) (hbd : body = .Expr (.Call (.Attribute (.Call (.Name "super" p0) [] [] p1) "__init__" p2) [.Constant (.str z1) j1 p3] [] pos) p4 :: rest)
    (hks : scope.names.lookup ("super" : Str) = some .globalImplicit) (hp : (params.posonlyargs ++ params.args).head? = some ar)
    {pl : PySem.Env → Sem Bool} (hev : ∀ env : PySem.Env, eval (.Call (.Attribute (.Call (.Name "super" p0) [] [] p1) "__init__" p2) [.Constant (.str z1) j1 p3] [] pos) env = (do
      let ov ← attributeBase (.Call (.Name "super" p0) [] [] p1) "__init__" env (eval (.Call (.Name "super" p0) [] [] p1) env)
      standAt p2.atName
      let (f, first) ← holding [ov] (getMethod ov "__init__" (pl env))
      callWith pos f first (backTo pos (starEach [.Constant (.str z1) j1 p3] env)) []))
    (len : ∀ vs H Q E, sp vs H Q E → vs.length = (ar.arg :: ps).length)
    (hbody : ∀ (A : Around) (outer : List PySem.Env) (s : Shared) (H : Hp) (vs : List V) (Q : VK) (E : XK), sp vs H Q E → ∃ (a C : Addr) (ys : List V) (t : TS), vs = .ref a :: ys ∧ IniC K D C flds ∧ H a = some (exo a C none) ∧
      PSs (ncx CX P w K mg base N (iniF name qual params body scope cc cda) f A outer s H E) rest t ∧ t { nx := fun _ H' => Q .non H', rt := Q } (startF N vs [some (.ref D)]) H) :
    FnOk P w K mg base CX (k + 1) f fd (ar.arg :: ps) sp := by
  refine ⟨len, fun A outer s H args us vs Q E hr e0 hb r hsp => ?_⟩
  have hl := len _ _ _ _ hsp
  have KX : K.In s.heap := e0.mod.kin.keeps fun b o e => (e0.bs b o e).1
  have lim : s.heap.NoLimit := e0.mod.nolimit.keeps fun b o e => (e0.bs b o e).1
  obtain ⟨oc, od, osl, lk⟩ := IK.lk
  obtain ⟨dV, kV, doc, pm, ct, rfl⟩ := IK.fdv
  obtain ⟨cl, cld, csl, hcell⟩ := IK.cell
  obtain ⟨a, C, ys, t, rfl, IC, ha, ht, hq⟩ := hbody A outer s H vs Q E hsp
  refine codeAny_call_function hr.depth (KX _ _ lk) rfl S.co S.gen rfl (PySem.W.codeRec_of KX IK.cd) (hb _ _ _ _ ?_)
  refine wpAny_newFunctionEnv S.nocell (fun ⟨n, _⟩ hy => S.par n (List.of_mem_zip hy).1) (fun h₁ hns hsb => ⟨lim.fresh _ hsb, ?_⟩) S.kind
  have kp : ∀ b o, s.heap.get? b = some o → h₁.get? b = some o := fun b o e => hsb.extBut b o (Nat.ne_of_lt (Heap.lt_size e)) (Heap.get?_push_of_some _ e)
  have bcell : base.get? cc = some ⟨cl, cld, .cell (some (.ref D)), csl⟩ := e0.mod.kin _ _ hcell
  have C0 : CellsAt [("__class__", cc)] ["__class__"] [some (.ref D)] s.heap H := {
    len := rfl
    all := fun y c e => by
      rw [List.lookup_cons] at e
      split at e
      · cases e
        exact ⟨(e0.bs _ _ bcell).2, _, _, KX _ _ hcell, rfl⟩
      · cases e
    inj := fun x y c e1 e2 => by
      rw [List.lookup_cons] at e1 e2
      split at e1
      · split at e2
        · rename_i h1 _ h2
          rw [eq_of_beq h1, eq_of_beq h2]
        · cases e2
      · cases e1
    has := fun i y e => by
      cases i with
      | zero =>
        simp only [List.getElem?_cons_zero, Option.some.injEq] at e
        subst e
        exact ⟨cc, rfl, fun v hv => by
          simp only [List.getElem?_cons_zero, Option.some.injEq] at hv
          subst hv
          exact ⟨.ref D, rfl, _, KX _ _ hcell, rfl⟩⟩
      | succ i => simp at e }
  have I : Inv (ncx CX P w K mg base N (iniF name qual params body scope cc cda) f A outer s H E) [] (startF N (.ref a :: ys) [some (.ref D)]) H { s with heap := h₁, toks := s.toks + ((ar.arg :: ps).zip us).length } := inv_startN S hr.hd e0 hl r C0 hns kp
  show codeAny _ _ (.func body (envF (iniF name qual params body scope cc cda) f s.heap.objs.size)) _ _
  cases r with
  | @cons _ u0 _ ur ra rw' =>
  obtain rfl : u0 = Value.ref a := ra
  have ndP : (ar.arg :: ps).Nodup := by
    have q := S.nd.sublist (List.take_sublist ((ar.arg :: ps).length + (["__class__"] : List Str).length) N)
    rw [S.pre] at q
    exact (List.nodup_append.mp q).1
  have hself : ((ar.arg :: ps).zip (Value.ref a :: ur)).reverse.lookup ar.arg = some (.ref a) := NdefX.zip_look (i := 0) ndP rfl rfl
  have hfr : scope.names.lookup ("__class__" : Str) = some .free := S.frk _ (List.mem_cons_self ..)
  obtain ⟨ccl, cdd, cvs, ccs, file, tf, hcode, hv2, hfile⟩ := IK.file
  obtain ⟨cdD, hcD⟩ := IK.cls
  have X1 : K.In h₁ := I.kIn
  obtain ⟨mb, hb1, hb2⟩ := I.mod.blt
  obtain ⟨oD, hD1, hD2⟩ : ∃ oD, h₁.get? D = some oD ∧ oD.data = .cls cdD := by
    unfold PySem.W.clsIn at hcD
    split at hcD
    · rename_i c d cd' sl ho
      cases hcD
      exact ⟨_, X1 _ _ ho, rfl⟩
    · cases hcD
  obtain ⟨t1, hoe⟩ := exo_at I.hok ha
  have fin : ∀ {σ' : L2.St} {H' : Hp} {v : V} {u : Value} {s' : Shared}, Inv (ncx CX P w K mg base N (iniF name qual params body scope cc cda) f A outer s H E) [] σ' H' s' → L2.RelV v u → Q v H' → CE outer P w H s Q u s' :=
    fun {σ' H' v u s'} J rv q => ⟨v, H', J.os, J.bare, J.base, J.hok, rv, q⟩
  refine PySem.ks_codeAny_funcAt ?_
  have eb : ∀ env : PySem.Env, execs body env = execs (.Expr (.Call (.Attribute (.Call (.Name "super" p0) [] [] p1) "__init__" p2) [.Constant (.str z1) j1 p3] [] pos) p4 :: rest) env := fun env => by rw [hbd]
  rw [eb]
  refine PySem.ks_wpAt_execs_cons (PySem.ks_wpAt_Expr_any (PySem.ks_wpAt_MethodCall ?_ (hev _)) (hi := I.quiet))
  refine PySem.ks_wpAt_super_base hks hfr rfl rfl (X1 _ _ lk) rfl hp rfl (X1 _ _ hcode) rfl hv2 hfile IK.top ?_
  refine PySem.W.ks_loadName_global S.kind hks (Calls.loadGlobal_builtin (I.mod.glob.keeps I.bk) (PySem.W.mg_none_of e0.mod.kin I.mod.glob IK.sup) (hb1.keeps I.bk) ((hb2 _ (by decide)).trans (by rfl)) ⟨rfl, ?_⟩)
  refine wpAny_loadName_free S.kind hfr rfl ⟨_, X1 _ _ hcell, rfl⟩ ?_
  refine wpAny_loadName_local S.kind (S.par _ (List.mem_cons_self ..)) hns hself ?_
  refine PySem.ks_wpAny_isType_cls hD1 hD2 ⟨rfl, ?_⟩
  refine PySem.ks_wpAny_call_super hD1 hD2 hoe rfl (fun c e => by cases e) (PySem.W.looks_mroIn X1 IC.sub) (fun h2 e2 k2 => ?_)
  have I2 := I.kept (t' := s.toks + ((ar.arg :: ps).zip (Value.ref a :: ur)).length) k2
  have X2 : K.In h2 := I2.kIn
  have J2 : PySem.W.InstAt h2 a _ C none := ⟨k2 _ _ hoe, rfl, rfl, trivial⟩
  cases hc : PySem.W.clsIn K C with
  | none => have z := IC.sup; unfold PySem.W.ks_superIn at z; rw [hc] at z; cases z
  | some cdC =>
  have hm := IC.sup
  unfold PySem.W.ks_superIn at hm
  rw [hc] at hm
  refine PySem.W.kxs_getMethod PySem.W.kxs_ValueError e2 (PySem.W.looks_opaque X2 IK.opq) (l₀ := cdC.mro) (fun A Q E s k q => wpAny_bind ((PySem.W.looks_clsIn X2 hc) A _ E s k (wpAny_pure q))) rfl X2 hm (J2.type.andThen (PySem.W.looks_subIn X2 IC.ve)) (PySem.W.ks_ne X2 J2 hc) (by decide) ?_
  obtain ⟨oX, hoX⟩ : ∃ o, o = PySem.W.kxs_mw "ValueError.__init__" a := ⟨_, rfl⟩
  rw [← hoX]
  have I3 := I2.kept (h' := h2.push oX) (t' := s.toks + ((ar.arg :: ps).zip (Value.ref a :: ur)).length + 1) fun b o e => Heap.get?_push_of_some _ e
  have hu : (h2.push oX).get? h2.objs.size = some oX := by subst hoX; exact Heap.get?_push_at rfl rfl
  have I4 : Inv (ncx CX P w K mg base N (iniF name qual params body scope cc cda) f A outer s H E) [(h2.objs.size, oX)] (startF N (.ref a :: ys) [some (.ref D)]) H _ := I3.pins_of fun p hp => by
    rw [List.mem_singleton.mp hp]
    exact ⟨hu, I2.hok.fresh (Nat.le_refl _), Nat.ne_of_gt I2.lt, I2.nofs (Nat.le_refl _), fun v z => by subst hoX; cases z⟩
  refine PySem.W.kxs_callWith (i := "ValueError.__init__") (x := a) (by rfl) (Calls.evalArgs_plain ?_)
  have pa : PA (ncx CX P w K mg base N (iniF name qual params body scope cc cda) f A outer s H E) [.Constant (.str z1) j1 p3] (tCons (tC (.str z1)) tNil) := pa_cons pe_str pa_nil
  refine thn (pa.run pos _ _ _ _ (fun vs H' => vs = [.str z1] ∧ H' = H) I4 ⟨rfl, rfl⟩) fun us s4 ⟨vs, H4, I5, r5, e5, e6⟩ => ?_
  subst e5 e6
  have hlen : us.length ≤ sizeLine := by
    rw [← Paired.length r5]
    show 1 ≤ sizeLine
    decide +kernel
  obtain ⟨hu5, _⟩ := I5.pin (h2.objs.size, oX) (by simp)
  subst hoX
  refine ⟨hu5, ?_⟩
  obtain ⟨nm, q, N', bs, bm, sn, sub, ab, col, dd, k0, k1, k3, k4, k5, hC, hbm⟩ := IC.ox.cls
  obtain ⟨t5, ho5⟩ := exo_at I5.hok ha
  obtain ⟨h5, g5, d5, tk5, os5⟩ := s4
  refine wpAny_call (codeAny_of_tree ?_)
  show wpAny _ (A.deeper (envF (iniF name qual params body scope cc cda) f s.heap.objs.size)).in1 (callAny (.ref h2.objs.size) ⟨us, []⟩) _ _ _
  simp only [callAny]
  refine wpAny_bind (wpAny_load hu5 ?_)
  simp only [PySem.W.kxs_mw, show (Value.type "method-wrapper" == Value.type "method" || Value.type "method-wrapper" == Value.type "builtin_function_or_method" || Value.type "method-wrapper" == Value.type "method-wrapper") = true by decide, if_true]
  refine PySem.W.KFB.if_so (by decide) ?_
  refine wpAny_bind (PySem.W.check_bound_init F.excBase_ValueError.toExcCallFacts (I5.kIn _ _ hC) ho5 rfl ?_)
  refine wpAny_bind (wpAny_pure (wpAny_pure ?_))
  refine ⟨plainId_quiet F.excBase_ValueError.init.plain _, codeAny_builtin F.excBase_ValueError.initEntry ?_⟩
  refine PySem.W.exc_init_tree (cls := .ref C) (t0 := t5) (dv := none) (c2 := .none) (c3 := .none) (b4 := .bool false) ho5 hlen fun h6 k6 ex6 et6 => ?_
  have J := I5.write (t' := tk5) (x := a) (e := a) (o := exo a C none) (by rw [ha]; exact True.intro) (.inl rfl) k6 ⟨_, ex6⟩ (exo_ok ex6)
  have eu : upd H4 a (exo a C none) = H4 := by
    funext b
    by_cases hb' : b = a
    · rw [hb', upd_same, ha]
    · rw [upd_ne hb']
  rw [eu] at J
  have J' := J.pins_of (pins' := []) fun p hp => absurd hp (by simp)
  refine wpAt_of_wpAny (wpAny_mono (ht.run [] _ _ _ _ J' hq) (fun fl s' hs => ?_) fun e s' hs => hs)
  cases fl with
  | ret u =>
    obtain ⟨v, σ', H', J, rv, q⟩ := hs
    exact fin J rv q
  | next =>
    obtain ⟨σ', H', J, q⟩ := hs
    exact fin (v := V.non) (u := Value.none) J rfl q
  | brk =>
    obtain ⟨_, _, _, q⟩ := hs
    exact False.elim q
  | cont =>
    obtain ⟨_, _, _, q⟩ := hs
    exact False.elim q
end Ev

set_option maxHeartbeats 4000000
/-! Ev, part Xr: raise C(..), C an own error class. -/
namespace Ev
open PySem PySem.Spec PySem.Calls PyProof.Rows L2 NdefX OEX
variable {X : Cx} {c : Cp} {F G H F' G' H' : Hp} {σ : L2.St} {δ : Env} {a b e tg : Expr} {es : List Expr} {pos p : Pos} {x : Str} {ta tb tc ty rt : Ty} {oa ob oc o : OT} {os : List OT} {fa fb fc : Env → Option R} {fs : Env → Option RL} {st : Stmt} {ss : List Stmt} {A A' : List Addr}
/-- an __init__ that stores its arguments under the names flds -/
def spX (K : PySem.W.Frag) (D : Addr) (flds : List Str) : Sp := fun vs H Q E => ∃ (a C : Addr) (ys : List V), vs = .ref a :: ys ∧ ys.length = flds.length ∧ IniC K D C flds ∧ H a = some (exo a C none) ∧
  ∀ dx, H dx = none → dx ≠ a → Q .non (upd (upd H dx (exd dx (flds.zip ys).reverse)) a (exo a C (some dx)))
theorem vis_local {sc : Scope} {x : Str} (h : sc.names.lookup x = some .local) : Vis sc x := by
  first
    | exact .inl h
    | exact Or.inl h
    | (unfold Vis; exact Or.inl h)
/-- one field -/
theorem ini1_ok {CX : CXT} {P : Program} {w : World} {K : PySem.W.Frag} {mg : Str → Option Value} {base : Heap} {k : Nat} {D f cc cda : Addr} {name qual : Str} {params : Arguments} {body : List Stmt} {scope : Scope} {fd : FuncData} {N : List Str} {fl : Str}
    {p0 p1 p2 p3 pos p4 q1 q2 q3 q4 : Pos} {z1 : Str} {j1 : Nat} {ar : Arg}
    (IK : IniK P K D f cc cda name qual params body scope fd) (S : NScope N [ar.arg, fl] ["__class__"] scope) (hbd : body = [.Expr (.Call (.Attribute (.Call (.Name "super" p0) [] [] p1) "__init__" p2) [.Constant (.str z1) j1 p3] [] pos) p4, .Assign [.Attribute (.Name ar.arg q1) fl q2] (.Name fl q3) q4])
    (hks : scope.names.lookup ("super" : Str) = some .globalImplicit) (hp : (params.posonlyargs ++ params.args).head? = some ar)
    {pl : PySem.Env → Sem Bool} (hev : ∀ env : PySem.Env, eval (.Call (.Attribute (.Call (.Name "super" p0) [] [] p1) "__init__" p2) [.Constant (.str z1) j1 p3] [] pos) env = (do
      let ov ← attributeBase (.Call (.Name "super" p0) [] [] p1) "__init__" env (eval (.Call (.Name "super" p0) [] [] p1) env)
      standAt p2.atName
      let (f, first) ← holding [ov] (getMethod ov "__init__" (pl env))
      callWith pos f first (backTo pos (starEach [.Constant (.str z1) j1 p3] env)) []))
    (hsw : ∀ env : PySem.Env, swapsWith (.Name fl q3) (some (.Attribute (.Name ar.arg q1) fl q2)) q4.line env = pure false)
    (h0 : N[0]? = some ar.arg) (h1 : N[1]? = some fl) (n0 : (ar.arg == ("__debug__" : Str)) = false ∧ (ar.arg == ("__classdict__" : Str)) = false) (n1 : (fl == ("__debug__" : Str)) = false ∧ (fl == ("__classdict__" : Str)) = false) :
    FnOk P w K mg base CX (k + 1) f fd [ar.arg, fl] (spX K D [fl]) := by
  refine ini_run (flds := [fl]) (ps := [fl]) IK S hbd hks hp hev (fun vs H Q E h => ?_) fun A outer s H vs Q E h => ?_
  · obtain ⟨a, C, ys, rfl, hl, _⟩ := h
    simp only [List.length_cons, hl, List.length_nil]
  · obtain ⟨a, C, ys, rfl, hl, IC, ha, hq⟩ := h
    match ys, hl with
    | [y], _ =>
    refine ⟨a, C, [y], _, rfl, IC, ha, pss_cons (ps_ost (pe_var (i := 0) h0 (vis_local (S.par _ (by simp))) n0.1 n0.2) (pe_var (i := 1) h1 (vis_local (S.par _ (by simp))) n1.1 n1.2) (hsw _)) pss_nil, ?_⟩
    refine ⟨y, by unfold startF; simp, .ref a, by unfold startF; simp, a, C, rfl, IC.ox, IC.fl _ (by simp), .inl ⟨ha, fun dx h1 h2 => hq dx h1 h2⟩⟩
/-- the class ci of errors can be made, by an __init__ of level k -/
structure XMk (P : Program) (w : World) (K : PySem.W.Frag) (mg : Str → Option Value) (base : Heap) (ci k : Nat) : Prop where
  ex : ∃ (D f : Addr) (fd : FuncData) (ps : List Str), FnOk P w K mg base (L2.CX P w) k f fd ps (spX K D (excT ci).fields) ∧ PySem.W.findIn K (.ref (He.ga K (excT ci).name)) "__init__" = some (some (.ref f)) ∧ PySem.W.typeIn K (.ref f) = some (.type "function") ∧ Binds K fd ps [] ∧ IniC K D (He.ga K (excT ci).name) (excT ci).fields
  g : mg (excT ci).name = some (.ref (He.ga K (excT ci).name))
  ne : ∃ f0 fs0, (excT ci).fields = f0 :: fs0
theorem passes_no {P : Program} {w : World} {X : Cx} : Passes (L2.CX P w) X (fun _ _ _ => False) := fun pins σ H s e s' _ h => by
  obtain ⟨a, B, H', cls, d, _, _, _, _, _, _, _, h⟩ := h
  exact h.elim
def sRaise (ci : Nat) (fs : EL) : So := fun δ => bndSL (fs δ) δ fun ds => some (.ex ⟨ci, ds⟩ δ)
theorem st_raise {ci k j : Nat} {pos' : Pos} (M : XMk X.prog X.w X.K X.mg X.base ci k) (hr : Room j X.A) (hj : k + 1 ≤ j) (hK : X.K = c.K) (hcm : X.calm = true) (tk : Takes X c.W) (hg : Gl X (excT ci).name) (ha : PA X (e :: es) (tL c os fs)) (hos : ∀ o ∈ os, o = .fz)
    (hlen : os.length = (excT ci).fields.length) (hl : os.length ≤ 1000) (hdb : ((excT ci).name == ("__debug__" : Str)) = false) (he : starEach (e :: es) X.env = (false, eval e X.env) :: starEach es X.env) (hpl : (backTo pos (starEach es X.env)).any (·.1) = false) :
    PS X (.Raise (some (.Call (.Name (excT ci).name p) (e :: es) [] pos)) none pos') (tS c rt (sRaise ci fs)) := by
  obtain ⟨D0, f, fd, ps, F1, hi, ht, hb, IC⟩ := M.ex
  obtain ⟨f0, fs0, hf0⟩ := M.ne
  refine PS.imp (ps_raise hcm tk (pmk_oex IC.ox hi ht F1 (hr.mono hj) hb .nil passes_no hg M.g ha hdb he hpl)) fun D σ H h => ?_
  obtain ⟨F, δ, E, h⟩ := h
  refine ⟨F, δ, E, ?_⟩
  have h : Gs c rt F D (bndSL (fs δ) δ fun ds => some (.ex ⟨ci, ds⟩ δ)) := h
  cases hfs : fs δ with
  | none => rw [hfs] at h; exact h.elim
  | some r =>
    cases r with
    | ex y => rw [hfs] at h; exact Gs.bad h E
    | ok ds =>
      rw [hfs] at h
      have h : Gs c rt F D (some (.ex ⟨ci, ds⟩ δ)) := h
      intro vs F1' H1 u1 vw
      have hvl : vs.length = os.length := vw.len
      obtain ⟨hIs, _⟩ := vw.isL hos
      refine ⟨by omega, fun a na => ?_⟩
      refine ⟨a, _, vs, by rw [List.append_nil], by rw [hvl, hlen], IC, upd_same, fun dx ndx hne => ?_⟩
      have ndx1 : H1 dx = none := by rw [upd_ne hne] at ndx; exact ndx
      refine ⟨rfl, dx, _, upd_same, by rw [upd_ne hne, upd_same], ndx1, ?_⟩
      have hg2 : ∀ b u, H1 b = some u → (upd (del (upd (upd (upd H1 a (exo a (He.ga X.K (excT ci).name) none)) dx (exd dx ((excT ci).fields.zip vs).reverse)) a (exo a (He.ga X.K (excT ci).name) (some dx))) a) dx (.xd ((excT ci).fields.zip vs).reverse)) b = some u := fun b u q => by
        have hb1 : b ≠ dx := fun z => by rw [z, ndx1] at q; cases q
        have hb2 : b ≠ a := fun z => by rw [z, na] at q; cases q
        rw [upd_ne hb1, del_ne hb2, upd_ne hb2, upd_ne hb1, upd_ne hb2]
        exact q
      have nFx : F1' dx = none := by
        cases z : F1' dx with
        | none => rfl
        | some u => have y := u1.fh _ _ z; rw [ndx1] at y; cases y
      have nHx : H dx = none := by
        cases z : H dx with
        | none => rfl
        | some u => have y := u1.hh _ _ z; rw [ndx1] at y; cases y
      have sF1 : Same F1' (upd F1' dx (.xd ((excT ci).fields.zip vs).reverse)) := fun b u q => by
        rw [upd_ne (show b ≠ dx from fun z => by rw [z, nFx] at q; cases q)]
        exact q
      have U : Up F H (upd F1' dx (.xd ((excT ci).fields.zip vs).reverse)) (upd (del (upd (upd (upd H1 a (exo a (He.ga X.K (excT ci).name) none)) dx (exd dx ((excT ci).fields.zip vs).reverse)) a (exo a (He.ga X.K (excT ci).name) (some dx))) a) dx (.xd ((excT ci).fields.zip vs).reverse)) :=
        ⟨u1.ff.trans sF1, fun b u q => hg2 b u (u1.hh b u q), fun b z1 z2 => by
          rw [upd_ne (show b ≠ dx from fun z => z2 (by rw [z]; exact nHx))]
          exact u1.fr b z1 z2, fun b u q => by
          by_cases hb1 : b = dx
          · subst hb1
            rw [upd_same] at q ⊢
            exact q
          · rw [upd_ne hb1] at q
            exact hg2 b u (u1.fh b u q)⟩
      refine h (.ref (He.ga X.K (excT ci).name)) (.ref (He.ga X.K (excT ci).name)) (some dx) σ (upd F1' dx (.xd ((excT ci).fields.zip vs).reverse)) _ rfl U.ff (E.up U) ?_
      refine ⟨by rw [hK], ?_⟩
      rw [hf0]
      exact ⟨dx, vs, rfl, by rw [upd_same], by rw [hvl, hlen, hf0], hIs.mono (by rw [← hf0]; exact sF1)⟩
end Ev

set_option maxHeartbeats 4000000
/-! Ev, part Xv: defs with *args. -/
namespace Ev
open PySem PySem.Spec PySem.Calls PyProof.Rows L2 StX
variable {X : Cx} {c : Cp} {F G H F' G' H' : Hp} {σ : L2.St} {δ : Env} {a b e tg : Expr} {es : List Expr} {pos p : Pos} {x : Str} {ta tb tc ty rt : Ty} {oa ob oc o : OT} {os : List OT} {fa fb fc : Env → Option R} {fs : Env → Option RL} {st : Stmt} {ss : List Stmt} {A A' : List Addr}
def packD (n : Nat) (ds : List D) : List D := ds.take n ++ [.tup (ds.drop n)]
/-- what a def f(a, .., *v) of n parameters ahead promises -/
def spV (K : PySem.W.Frag) (n : Nat) (φ : Fn) : Sp := fun vs H Q E => ∃ F ds, Same F H ∧ IsL K F ds vs ∧ n ≤ ds.length ∧ ds.length ≤ sizeLine ∧ GF K F H (.vw .fz) Q E (φ (packD n ds))
section
variable {P : Program} {w : World} {K : PySem.W.Frag} {mg : Str → Option Value} {base : Heap} {xn qual : Str} {params : Arguments} {body : List Stmt} {scope : Scope} {kws : List (Str × V)} {f : Addr} {fd : FuncData}
theorem view_fz {K : PySem.W.Frag} : ∀ {os : List OT} {ds : List D} {vs : List V}, (∀ o ∈ os, o = .fz) → os.length = ds.length → IsL K F ds vs → ViewL K F H os ds vs
  | [], [], vs, _, _, h => by simp only [IsL] at h; simp only [ViewL]; exact h
  | o :: os, d :: ds, vs, ho, hl, h => by
    simp only [IsL] at h
    obtain ⟨v, r, rfl, h1, h2⟩ := h
    obtain rfl := ho o (List.mem_cons_self ..)
    simp only [ViewL]
    exact ⟨v, r, rfl, ⟨[], Own.of_is h1⟩, view_fz (fun q hq => ho q (List.mem_cons_of_mem _ hq)) (by simpa using hl) h2⟩
  | [], _ :: _, _, _, hl, _ => by simp at hl
  | _ :: _, [], _, _, hl, _ => by simp at hl
theorem def_okV {N ps : List Str} {pv : Str} {k : Nat} {g : So} {Ks : List Kd} (FD : FunD K xn qual params body scope [] kws f fd) (S : FnScope N (ps ++ [pv]) scope) (hKs : Ks.length = N.length) (hle : ps.length + 1 ≤ N.length)
    (hbd : ∀ (kV doc pm : Value) (an : Option Addr) (cdv ct : Value) (us rest : List Value), us.length = ps.length → bindArgs (PySem.W.fnOf xn qual params body scope .none kV doc pm an cdv ct) ⟨us ++ rest, []⟩ = (newTuple rest >>= fun t => pure (ps.zip us ++ [(pv, t)])))
    (hk : Ks.take (ps.length + 1) = (List.replicate (ps.length + 1) OT.fz).map .ve) (hb : BodyOk P w K mg base N qual scope f k Ks (.vw .fz) body g) : FnR P w K mg base (L2.CX P w) (k + 1) f (spV K ps.length (defF (.vw .fz) N.length g)) := by
  obtain ⟨oc, od, dV, kV, doc, pm, an, cdv, ct, osl, rfl, lk, hcd, hD, hKw⟩ := FD.ex
  obtain rfl : dV = .none := by
    rcases hD with ⟨_, rfl⟩ | ⟨e, _⟩
    · rfl
    · exact absurd rfl e
  refine FnR.imp (fn_star (pv := pv) (ps := ps) (sp := spE K ⟨List.replicate (ps.length + 1) .fz, .vw .fz⟩ (defF (.vw .fz) N.length g)) lk hcd S cxUp (hbd kV doc pm an cdv ct) fun A outer s H vs Q E hr h => ?_) fun vs H Q E h => ?_
  · obtain ⟨F, ds, sF, hv, hq⟩ := h
    refine ⟨_, hb cdv A outer s H E ⟨K, Ks, F, H, fun u dx _ H' => E u dx H'⟩ hr rfl rfl (takes_of rfl rfl rfl rfl), ?_⟩
    refine ⟨F, startE N.length ds, EnvOk.start sF hKs (by rw [List.length_replicate]; exact hle) (by rw [List.length_replicate]; exact hk) hv, ?_⟩
    change GF K F H (.vw .fz) Q E (outR (.vw .fz) (g (startE N.length ds))) at hq
    cases e : g (startE N.length ds) with
    | none => rw [e] at hq; exact hq
    | some r =>
      rw [e] at hq
      cases r with
      | nx δ =>
        intro σ F' H' s1 E1
        exact hq .non F' H' (EnvOk.toUp E1) ⟨[], Own.of_is (by simp only [Is])⟩
      | brk δ => exact hq.elim
      | ct δ => exact hq.elim
      | ret d δ => exact fun v σ F' H' E1 p => hq v F' H' (EnvOk.toUp E1) p
      | ex x δ => exact fun cls u dx σ F' H' r s1 E1 xr => hq cls u dx F' H' r (EnvOk.toUp E1) xr
  · obtain ⟨F, ds, sF, hi, hn, hz, hq⟩ := h
    have hlen := hi.length
    refine ⟨vs.take ps.length, vs.drop ps.length, (List.take_append_drop _ _).symm, by rw [List.length_take]; omega, by rw [List.length_drop]; omega, fun p hp => ?_⟩
    have nF : F p = none := by
      cases z : F p with
      | none => rfl
      | some u => rw [sF _ _ z] at hp; cases hp
    have sFF : Same F (upd F p (.tup (vs.drop ps.length))) := fun b u z => by
      rw [upd_ne (show b ≠ p from fun y => by rw [y, nF] at z; cases z)]
      exact z
    have sHH : Same H (upd H p (.tup (vs.drop ps.length))) := fun b u z => by
      rw [upd_ne (show b ≠ p from fun y => by rw [y, hp] at z; cases z)]
      exact z
    refine ⟨upd F p (.tup (vs.drop ps.length)), packD ps.length ds, fun b u z => ?_, ?_, ?_⟩
    · by_cases hb' : b = p
      · subst hb'
        rw [upd_same] at z ⊢
        exact z
      · rw [upd_ne hb'] at z ⊢
        exact sF b u z
    · refine view_fz (fun o ho => (List.eq_of_mem_replicate ho)) (by unfold packD; rw [List.length_replicate, List.length_append, List.length_take, List.length_singleton]; omega) ?_
      unfold packD
      refine IsL.append ((hi.take ps.length).mono sFF) ?_
      simp only [IsL]
      exact ⟨.ref p, [], rfl, ⟨p, _, rfl, upd_same, (hi.drop ps.length).mono sFF⟩, rfl⟩
    · have up : Up F H (upd F p (.tup (vs.drop ps.length))) (upd H p (.tup (vs.drop ps.length))) := ⟨sFF, sHH, fun b z1 z2 => by
        rw [upd_ne (show b ≠ p from fun y => z2 (by rw [y]; exact hp))]
        exact z1, fun b u z => by
          by_cases hb' : b = p
          · subst hb'
            rw [upd_same] at z ⊢
            exact z
          · rw [upd_ne hb'] at z ⊢
            exact sF b u z⟩
      cases r : defF (.vw .fz) N.length g (packD ps.length ds) with
      | none => rw [r] at hq; exact hq
      | some r' =>
        rw [r] at hq
        cases r' with
        | ok d => exact fun v F2 H2 u2 po => hq v F2 H2 (up.trans u2) po
        | ex x => exact fun cls u dx F2 H2 rv u2 xr => hq cls u dx F2 H2 rv (up.trans u2) xr
end
theorem run_fnW {X : Cx} {CX : CXT} {pins : List (Addr × Obj)} {σ : L2.St} {H : Hp} {s : Shared} {k : Nat} {f : Addr} {sp : Sp} {E : L2.St → XK} {Q : VK} {us : List Value} {vs : List V} (F : FnR X.prog X.w X.K X.mg X.base CX k f sp) (hr : Room k X.A) (hx : ∀ σ, PassesAt CX X σ (E σ)) (I : Inv X pins σ H s) (r : Vals vs us) (h : sp vs H Q (E σ)) :
    codeAny (model X.prog X.w) X.A (.call (.ref f) ⟨us, []⟩) (fun r s' => match r with | .ok (.ret v) => EP X pins σ Q v s' | .ok _ => False | .error e => X.xe e s') s := by
  refine codeAny_mono (F X.A X.stack s H us vs Q (E σ) hr I.env0 r h) fun r s' hq => ?_
  rcases r with e | (_ | u | _ | _)
  · exact hx σ pins H s e s' I hq
  all_goals first | exact I.after hq | exact False.elim hq
def tMethR (C : Addr) (m : Str) (sp : Sp) (E : L2.St → XK) (ta : TE) (t : TA) : TE := fun σ H Q => ta σ H fun x H1 => ∃ a dx fs, x = .ref a ∧ H1 a = some (.ins C dx fs) ∧ fs.lookup m = none ∧ t σ H1 fun vs H2 => sp (x :: vs) H2 Q (E σ)
theorem pe_methR {CX : CXT} {k : Nat} {C g : Addr} {m : Str} {sp : Sp} {te : TE} {t : TA} {pl : Sem Bool} {apos : Pos} (he : PE X a te) (hC : Cls X.K C) (hm : Meth X.K C m g) (F : FnR X.prog X.w X.K X.mg X.base CX k g sp) (hr : Room k X.A) {E : L2.St → XK} (hx : ∀ σ, PassesAt CX X σ (E σ)) (ha : PA X (e :: es) t)
    (hst : starEach (e :: es) X.env = (false, eval e X.env) :: starEach es X.env) (hpl : (backTo pos (starEach es X.env)).any (·.1) = false)
    (ht : eval (.Call (.Attribute a m apos) (e :: es) [] pos) X.env = (do
      let ov ← eval a X.env
      standAt apos.atName
      let (f, first) ← holding [ov] (getMethod ov m pl)
      callWith pos f first (backTo pos (starEach (e :: es) X.env)) (backToKw pos (keywordEach [] X.env)))) :
    PE X (.Call (.Attribute a m apos) (e :: es) [] pos) (tMethR C m sp E te t) := by
  refine ⟨fun pins s σ H Q I h => ?_⟩
  refine PySem.W.methodCall_KW (pl := pl) (thn (he.run pins s σ H _ I h) fun u s1 ⟨x, H1, I1, rx, a, dx, fs, ex, ea, l, q⟩ => ?_) ht
  subst ex
  obtain rfl : u = Value.ref a := rx
  refine getmeth_ok I1 ea hC hm l ?_
  refine PySem.W.callWith_K (first := [.ref a]) (h₀ := X.base) I.ok.mod.kin hm.kp (thn (ha.run pos pins s1 σ H1 _ I1 q) fun us s2 ⟨vs, H2, I2, r, q2⟩ => ⟨I2.kIn, ?_⟩) hst hpl
  exact wpAny_call (run_fnW (us := .ref a :: us) (vs := .ref a :: vs) F hr hx I2 (.cons rfl r) q2)
theorem pe_methR0 {CX : CXT} {k : Nat} {C g : Addr} {m : Str} {sp : Sp} {te : TE} {pl : Sem Bool} {apos : Pos} (he : PE X a te) (hC : Cls X.K C) (hm : Meth X.K C m g) (F : FnR X.prog X.w X.K X.mg X.base CX k g sp) (hr : Room k X.A) {E : L2.St → XK} (hx : ∀ σ, PassesAt CX X σ (E σ))
    (ht : eval (.Call (.Attribute a m apos) [] [] pos) X.env = (do
      let ov ← eval a X.env
      standAt apos.atName
      let (f, first) ← holding [ov] (getMethod ov m pl)
      callWith pos f first (backTo pos (starEach [] X.env)) (backToKw pos (keywordEach [] X.env)))) :
    PE X (.Call (.Attribute a m apos) [] [] pos) (tMethR C m sp E te tNil) := by
  refine ⟨fun pins s σ H Q I h => ?_⟩
  refine PySem.W.methodCall_KW (pl := pl) (thn (he.run pins s σ H _ I h) fun u s1 ⟨x, H1, I1, rx, a, dx, fs, ex, ea, l, q⟩ => ?_) ht
  subst ex
  obtain rfl : u = Value.ref a := rx
  refine getmeth_ok I1 ea hC hm l ?_
  refine PySem.W.callWith_K0 (first := [.ref a]) I1.kIn hm.kp ?_
  exact wpAny_call (run_fnW (us := [.ref a]) (vs := [.ref a]) F hr hx I1 (.cons rfl .nil) q)
structure PCalV (P : Program) (w : World) (K : PySem.W.Frag) (mg : Str → Option Value) (base : Heap) (ci : Nat) (m : Str) (k n : Nat) (φ : Fn) : Prop where
  ex : ∃ f : Addr, FnR P w K mg base (L2.CX P w) k f (spV K n φ) ∧ Meth K (clsA K ci) m f
  nf : m ∉ (clsT ci).fields
def callV (n : Nat) (φ : Fn) (ds : List D) : Option R := if n ≤ ds.length ∧ ds.length ≤ sizeLine then φ (packD n ds) else none
def fPmV (ci n : Nat) (φ : Fn) (fa : EF) (fs : EL) : EF := fun δ => bnd (fa δ) fun d => if isIns ci d then bndL (fs δ) fun ds => callV n φ (d :: ds) else none
def fPmV0 (ci n : Nat) (φ : Fn) (fa : EF) : EF := fun δ => bnd (fa δ) fun d => if isIns ci d then callV n φ [d] else none
theorem callV_sp {K : PySem.W.Frag} {n : Nat} {φ : Fn} {ds : List D} {vs : List V} {Q : VK} {E : XK} (sF : Same F H) (hi : IsL K F ds vs) (hg : GF K F H (.vw .fz) Q E (callV n φ ds)) : spV K n φ vs H Q E := by
  unfold callV at hg
  split at hg
  · rename_i h
    exact ⟨F, ds, sF, hi, h.1, h.2, hg⟩
  · exact hg.elim
theorem e_pmV {ci k j n : Nat} {m : Str} {φ : Fn} {apos : Pos} {pl : Sem Bool} (M : PCalV X.prog X.w X.K X.mg X.base ci m k n φ) (hr : Room j X.A) (hj : k ≤ j) (hK : X.K = c.K) (hc : ClsOk c.K ci) (tk : Takes X c.W)
    (ho : PE X a (tV c ta fa)) (ca : coe ta .fz = true) (ha : PA X (e :: es) (tL c os fs)) (hos : ∀ o ∈ os, o = .fz) (hst : starEach (e :: es) X.env = (false, eval e X.env) :: starEach es X.env) (hpl : (backTo pos (starEach es X.env)).any (·.1) = false)
    (ht : eval (.Call (.Attribute a m apos) (e :: es) [] pos) X.env = (do
      let ov ← eval a X.env
      standAt apos.atName
      let (f, first) ← holding [ov] (getMethod ov m pl)
      callWith pos f first (backTo pos (starEach (e :: es) X.env)) (backToKw pos (keywordEach [] X.env)))) :
    PE X (.Call (.Attribute a m apos) (e :: es) [] pos) (tV c (.vw .fz) (fPmV ci n φ fa fs)) := by
  obtain ⟨⟨f, FF, hm⟩, nf⟩ := M
  refine PE.imp (pe_methR ho (hK ▸ hc.1 : Cls X.K (clsA X.K ci)) hm FF (hr.mono hj) (fun σ => passAt tk σ) ha hst hpl ht) fun σ H Q h => ?_
  obtain ⟨F, δ, E, h⟩ := h
  refine tV.goV ca E h fun d v F1 H1 u1 E1 ⟨A, hx⟩ h1 => ?_
  by_cases g : isIns ci d = true
  · rw [if_pos g] at h1
    obtain ⟨sd, rfl⟩ := isIns_ok g
    obtain ⟨a0, dx, vs, rfl, ea⟩ := is_ins hx.is
    refine ⟨a0, dx, _, rfl, hK ▸ u1.fh _ _ ea, zip_none nf, tL.goV E1 h1 fun ds ws F2 H2 u2 E2 w h2 => ?_⟩
    obtain ⟨hi, _⟩ := w.isL hos
    refine callV_sp (ds := .ins ci sd :: ds) u2.fh ?_ ?_
    · simp only [IsL]
      exact ⟨.ref a0, ws, rfl, hK ▸ (hx.up u2).is, hK ▸ hi⟩
    · have h2 : Gv c (.vw .fz) F2 H2 σ Q (callV n φ (.ins ci sd :: ds)) := h2
      cases r : callV n φ (.ins ci sd :: ds) with
      | none => rw [r] at h2; exact h2
      | some r' =>
        rw [r] at h2
        cases r' with
        | ok d => exact hK ▸ h2
        | ex x => exact fun cls u dx F' H' rv up xr => h2 cls u dx F' H' rv up (hK ▸ xr)
  · rw [if_neg g] at h1; exact h1.elim
theorem e_pmV0 {ci k j n : Nat} {m : Str} {φ : Fn} {apos : Pos} {pl : Sem Bool} (M : PCalV X.prog X.w X.K X.mg X.base ci m k n φ) (hr : Room j X.A) (hj : k ≤ j) (hK : X.K = c.K) (hc : ClsOk c.K ci) (tk : Takes X c.W)
    (ho : PE X a (tV c ta fa)) (ca : coe ta .fz = true)
    (ht : eval (.Call (.Attribute a m apos) [] [] pos) X.env = (do
      let ov ← eval a X.env
      standAt apos.atName
      let (f, first) ← holding [ov] (getMethod ov m pl)
      callWith pos f first (backTo pos (starEach [] X.env)) (backToKw pos (keywordEach [] X.env)))) :
    PE X (.Call (.Attribute a m apos) [] [] pos) (tV c (.vw .fz) (fPmV0 ci n φ fa)) := by
  obtain ⟨⟨f, FF, hm⟩, nf⟩ := M
  refine PE.imp (pe_methR0 ho (hK ▸ hc.1 : Cls X.K (clsA X.K ci)) hm FF (hr.mono hj) (fun σ => passAt tk σ) ht) fun σ H Q h => ?_
  obtain ⟨F, δ, E, h⟩ := h
  refine tV.goV ca E h fun d v F1 H1 u1 E1 ⟨A, hx⟩ h1 => ?_
  by_cases g : isIns ci d = true
  · rw [if_pos g] at h1
    obtain ⟨sd, rfl⟩ := isIns_ok g
    obtain ⟨a0, dx, vs, rfl, ea⟩ := is_ins hx.is
    refine ⟨a0, dx, _, rfl, hK ▸ u1.fh _ _ ea, zip_none nf, ?_⟩
    refine callV_sp (ds := [.ins ci sd]) u1.fh ?_ ?_
    · simp only [IsL]
      exact ⟨.ref a0, [], rfl, hK ▸ hx.is, rfl⟩
    · have h2 : Gv c (.vw .fz) F1 H1 σ Q (callV n φ [.ins ci sd]) := h1
      cases r : callV n φ [.ins ci sd] with
      | none => rw [r] at h2; exact h2
      | some r' =>
        rw [r] at h2
        cases r' with
        | ok d => exact hK ▸ h2
        | ex x => exact fun cls u dx F' H' rv up xr => h2 cls u dx F' H' rv up (hK ▸ xr)
  · rw [if_neg g] at h1; exact h1.elim
end Ev

set_option maxHeartbeats 4000000
/-! Ev, part Xt: try: .. except C as e: one statement. -/
namespace Ev
open PySem PySem.Spec PySem.Calls PyProof.Rows L2
variable {X : Cx} {c : Cp} {F G H F' G' H' : Hp} {σ : L2.St} {δ : Env} {a b e tg : Expr} {es : List Expr} {pos p : Pos} {x : Str} {ta tb tc ty rt : Ty} {oa ob oc o : OT} {os : List OT} {fa fb fc : Env → Option R} {fs : Env → Option RL} {st : Stmt} {ss : List Stmt} {A A' : List Addr}
/-- the context of an except suite: slot i holds the exception a -/
def Cp.hc (c : Cp) (i : Nat) (a : Addr) (F0 : Hp) : Cp := { c with Ks := c.Ks.set i (.pn .fz (.ref a)), F0 := F0, W := fun _ _ _ _ => False }
theorem EnvOk.hc_in {K : PySem.W.Frag} {Ks : List Kd} {F0 : Hp} {i : Nat} {a : Addr} (E : EnvOk K Ks F0 G F H σ δ) (hi : i < Ks.length) : EnvOk K (Ks.set i (.pn .fz (.ref a))) F G F H (σ.set i (some (.ref a))) (δ.set i (some .xv)) := by
  obtain ⟨As, h1, h2, h3, h4⟩ := EnvOk.sl E
  have hσ : i < σ.length := by rw [E.ls]; exact hi
  have hδ : i < δ.length := by rw [E.ld]; exact hi
  refine ⟨by rw [List.length_set, List.length_set]; exact E.ls, by rw [List.length_set, List.length_set]; exact E.ld, E.gh, Same.refl _, E.fh, fun b z _ => z, fun j => if j = i then [] else As j, fun j k d e1 e2 => ?_, fun j => ?_, fun j l b hb1 hb2 => ?_, fun j b hb => ?_⟩
  · by_cases q : j = i
    · subst q
      rw [List.getElem?_set_self hi] at e1
      rw [List.getElem?_set_self hδ] at e2
      cases e1
      cases e2
      refine ⟨.ref a, List.getElem?_set_self hσ, rfl, ?_⟩
      show Own K F H .fz .xv (.ref a) (if j = j then [] else As j)
      rw [if_pos rfl]
      exact Own.of_is (by simp only [Is]; exact ⟨a, rfl⟩)
    · rw [List.getElem?_set_ne (Ne.symm q)] at e1 e2
      rw [List.getElem?_set_ne (Ne.symm q)]
      obtain ⟨v, e3, s⟩ := h1 j k d e1 e2
      refine ⟨v, e3, ?_⟩
      show SlotOk K F G H k d v (if j = i then [] else As j)
      rw [if_neg q]
      exact s
  · show (if j = i then [] else As j).Nodup
    split
    · exact List.nodup_nil
    · exact h2 j
  · have hb1 : b ∈ (if j = i then [] else As j) := hb1
    have hb2 : b ∈ (if l = i then [] else As l) := hb2
    split at hb1 <;> split at hb2
    · cases hb1
    · cases hb1
    · cases hb2
    · exact h3 j l b hb1 hb2
  · have hb : b ∈ (if j = i then [] else As j) := hb
    split at hb
    · cases hb
    · exact h4 j b hb
theorem EnvOk.hc_out {K : PySem.W.Frag} {Ks : List Kd} {F0 F1 F2 H2 : Hp} {i : Nat} {k : Kd} {σ2 : L2.St} {δ2 : Env} (E : EnvOk K Ks F0 G F1 H σ δ) (E2 : EnvOk K (Ks.set i k) F1 G F2 H2 σ2 δ2) (hi : i < Ks.length) : EnvOk K Ks F0 G F2 H2 (σ2.set i none) (δ2.set i none) := by
  obtain ⟨As, h1, h2, h3, h4⟩ := EnvOk.sl E2
  refine ⟨by rw [List.length_set, E2.ls, List.length_set], by rw [List.length_set, E2.ld, List.length_set], E2.gh, E.f0.trans E2.f0, E2.fh, fun b z1 z2 => E2.fr b (E.fr b z1 z2) z2, As, fun j k d e1 e2 => ?_, h2, h3, h4⟩
  by_cases q : j = i
  · subst q
    have : j < δ2.length := by rw [E2.ld, List.length_set]; exact hi
    rw [List.getElem?_set_self this] at e2
    cases e2
  · rw [List.getElem?_set_ne (Ne.symm q)] at e2
    rw [List.getElem?_set_ne (Ne.symm q)]
    exact h1 j k d (by rw [List.getElem?_set_ne (Ne.symm q)]; exact e1) e2
def xName (ci : Nat) : Str := (excT ci).name
/-- the end of an except suite; none may be raised in it -/
def hndO (i : Nat) : Option Out → Option Out
  | some (.nx δ) => some (.nx (δ.set i none))
  | some (.brk δ) => some (.brk (δ.set i none))
  | some (.ct δ) => some (.ct (δ.set i none))
  | some (.ret d δ) => some (.ret d (δ.set i none))
  | _ => none
def sTry1 (g : So) (tb : List (Nat × Bool)) (i : Nat) (h : Xd → So) : So := fun δ => match g δ with
  | some (.ex x δ1) => (match tb.lookup x.c with
    | some true => hndO i (h x (δ1.set i (some .xv)))
    | some false => some (.ex x δ1)
    | none => none)
  | r => r
theorem look_tb {n : Nat} {b : Bool} : ∀ {tb : List (Nat × Bool)}, tb.lookup n = some b → (n, b) ∈ tb
  | [], h => by cases h
  | (m, d) :: tb, h => by
    rw [List.lookup_cons] at h
    by_cases e : n = m
    · subst e
      simp only [beq_self_eq_true, Option.some.injEq] at h
      subst h
      exact List.mem_cons_self ..
    · have : (n == m) = false := by simpa using e
      rw [this] at h
      exact List.mem_cons_of_mem _ (look_tb h)
theorem st_try1 {i : Nat} {n xh : Str} {np pos' : Pos} {body suite : List Stmt} {b₀ : Stmt} {g : So} {h : Xd → So} {cv : Value} {tb : List (Nat × Bool)}
    (hs : X.stack = X.env :: X.outer) (hf : X.env.frame = some X.env.locals) (lo : Lo X.N X.env.scope i n) (hln : X.env.kindOf n = some .local) (hc : Names X xh cv) (tk : Takes X c.W) (hK : X.K = c.K) (hi : i < c.Ks.length)
    (htb : ∀ q ∈ tb, PySem.W.exmOne c.K (.ref (He.ga c.K (excT q.1).name)) cv = some q.2)
    (hb : ∀ (W : WX) (pn : List (Addr × Obj)) (xe : Value → Shared → Prop), Takes (X.tr pn xe) W → PassesOwn (model X.prog X.w) X.A X.env xe → PSs (X.tr pn xe) body (tS { c with W := W } rt g))
    (hsu : ∀ (x : Xd) (a : Addr) (oe : Obj) (d : Option Addr) (pn : List (Addr × Obj)) (F0 : Hp), (x.c, true) ∈ tb → Zc (.ref (He.ga c.K (excT x.c).name)) d oe → (∃ vs, oe.data = .fields vs) → (∀ H1, XRep c.K F0 H1 x (.ref (He.ga c.K (excT x.c).name)) d) → PSs (X.suite a ((a, oe) :: pn)) (b₀ :: suite) (tS (c.hc i a F0) rt (h x))) :
    PS X (.Try body [.ExceptHandler (some (.Name xh np)) (some n) (b₀ :: suite) pos'] [] [] pos) (tS c rt (sTry1 g tb i h)) := by
  refine PS.imp (ps_try_as (ts := fun a cls d D σ H => ∃ x F0, cls = .ref (He.ga c.K (excT x.c).name) ∧ (x.c, true) ∈ tb ∧ (∀ H1, XRep c.K F0 H1 x (.ref (He.ga c.K (excT x.c).name)) d) ∧ tS (c.hc i a F0) rt (h x) D σ H) hs hf lo.nd lo.n hln hc tk hb fun a oe cls d pn hz hd => ⟨fun pins s σ H D I q => ?_⟩) fun D σ H q => ?_
  · obtain ⟨x, F0, rfl, hm, xr, q⟩ := q
    exact (hsu x a oe d pn F0 hm hz hd xr).run pins s σ H D I q
  · obtain ⟨F, δ, E, q⟩ := q
    refine ⟨F, δ, E, ?_⟩
    change Gs c rt F D (match g δ with
      | some (.ex x δ1) => (match tb.lookup x.c with
        | some true => hndO i (h x (δ1.set i (some .xv)))
        | some false => some (.ex x δ1)
        | none => none)
      | r => r) at q
    cases hg : g δ with
    | none => rw [hg] at q; exact q
    | some r =>
      rw [hg] at q
      cases r with
      | nx δ1 => exact q
      | brk δ1 => exact q
      | ct δ1 => exact q
      | ret d δ1 => exact q
      | ex x δ1 =>
        intro cls u dx σ1 F1 H1 rv sf E1 xr
        obtain rfl := xr.1
        obtain rfl : u = Value.ref (He.ga c.K (excT x.c).name) := rv
        simp only at q
        cases hl : tb.lookup x.c with
        | none => rw [hl] at q; exact q.elim
        | some b =>
          rw [hl] at q
          have ex1 := htb _ (look_tb hl)
          have hlm := look_tb hl
          refine ⟨b, hK ▸ ex1, fun hb2 a na => ?_, fun hb2 => ?_⟩
          · subst hb2
            simp only at q
            refine ⟨x, F1, rfl, hlm, fun H2 => xr, F1, δ1.set i (some .xv), EnvOk.hc_in E1 hi, ?_⟩
            cases hh : h x (δ1.set i (some .xv)) with
            | none => rw [hh] at q; exact q.elim
            | some r2 =>
              rw [hh] at q
              cases r2 with
              | nx δ2 => exact fun σ2 F2 H2 s2 E2 => q _ F2 H2 (sf.trans s2) (EnvOk.hc_out E1 E2 hi)
              | brk δ2 => exact fun σ2 F2 H2 s2 E2 => q _ F2 H2 (sf.trans s2) (EnvOk.hc_out E1 E2 hi)
              | ct δ2 => exact fun σ2 F2 H2 s2 E2 => q _ F2 H2 (sf.trans s2) (EnvOk.hc_out E1 E2 hi)
              | ret d δ2 => exact fun v σ2 F2 H2 E2 po => q v _ F2 H2 (EnvOk.hc_out E1 E2 hi) po
              | ex y δ2 => exact q.elim
          · subst hb2
            exact q (.ref (He.ga c.K (excT x.c).name)) (.ref (He.ga c.K (excT x.c).name)) dx σ1 F1 H1 rfl sf E1 xr
theorem names_gl {cv : Value} (h : Gl X x) (hd : (x == ("__debug__" : Str)) = false) (hm : X.mg x = some cv) : Names X x cv := ⟨h, hd, .inl hm⟩
end Ev

set_option maxHeartbeats 4000000
/-! Ev, part Xh: in an except suite: e.f, isinstance(e, C). -/
namespace PySem.W
open PySem PySem.Spec PySem.Calls PyProof.Rows L2
section
variable {prog : Program} {w : World} {A : Around} {E : Value → Shared → Prop} {s : Shared} {K : Frag} {x D : Addr} {ox : Obj} {od : Option Obj}
theorem xh_find (C : ExcC K D) : findObj K D od "__class__" = some (.bind (.builtin "getset_descriptor.__get__") (.builtin "object.__class__")) := by
  obtain ⟨_, hc, _⟩ := any_some C.hd
  unfold findObj; rw [hc, Option.bind_some, C.ha, Option.bind_some]
  simp [C.hn, C.ht]
theorem xh_class {Q : Option Value → Shared → Prop} (C : ExcC K D) (X : K.In s.heap) (I : InstAt s.heap x ox D od) (h : Q (some (.ref D)) { s with toks := s.toks + 1 }) : wpAny (model prog w) A (getAttr? (.ref x) "__class__") Q E s := by
  obtain ⟨hp, g, d, t, os⟩ := s
  have T0 := I.type (M := model prog w); have T1 := looks_findIn (M := model prog w) X C.hg; have T2 := looks_findIn (M := model prog w) X C.hk; have T3 := looks_find (M := model prog w) X I (xh_find C)
  have sb : Looks (model prog w) hp (isInstance (.ref x) (.type "BaseException")) true := T0.andThen (looks_subIn X C.hs)
  have n2 : (Value.builtin "BaseException.__getattribute__" == Value.builtin "object.__getattribute__") = false := by decide +kernel
  have n1 : (onTheHeap (Value.ref D) && Value.builtin "BaseException.__getattribute__" == Value.builtin "object.__getattribute__") = false := by rw [n2]; rfl
  unfold getAttr? getAttrBy? getAttrBy; refine wpAny_bind (wpAny_mkText (wpAny_bind (wpAny_attempt (wpAny_holding (wpAny_bind (T0.at (wpAny_bind (T1.at ?_))))))))
  change wpAny _ _ (if (onTheHeap (Value.ref D) && Value.builtin "BaseException.__getattribute__" == Value.builtin "object.__getattribute__") = true then _ else _) _ _ _
  rw [n1, if_neg Bool.false_ne_true]; unfold getAttrByItsOwn hookBefore; refine wpAny_bind ?_
  rw [if_pos (show onTheHeap (Value.ref D) = true from rfl)]; refine T2.at (wpAny_bind (wpAny_attempt (wpAny_holding ?_)))
  unfold callGetattribute; rw [show (false && onTheHeap (Value.builtin "BaseException.__getattribute__")) = false from rfl, if_neg Bool.false_ne_true]; unfold boundAndCalled
  rw [PySem.F.excAttr_ValueError.ga.bind (.ref x)]; refine wpAny_bind (wpAny_pure ?_)
  change wpAny _ _ (call (.builtin "BaseException.__getattribute__") [.ref x, .str "__class__" t]) _ _ _
  refine wpAny_call (codeAny_call_builtin PySem.F.excAttr_ValueError.ga.plain PySem.F.entry_bexc_ga (@check_slot (model prog w) _ _ ⟨hp, g, d, t + 1, os⟩ "BaseException.__getattribute__" "BaseException" "__getattribute__" (.ref x) [.str "__class__" t] [] _ (by decide +kernel) (by decide +kernel) sb (PySem.F.args_bexc_ga (.ref x) (.str "__class__" t)) ?_))
  unfold Builtin.«object.__getattribute__»; refine wpAny_bind (wpAny_of_eq (a := ((Value.ref x : Value), [Value.str "__class__" t])) (by first | rfl | (simp only [slotArgs]; rfl)) (wpAny_bind (wpAny_pure (wpAny_bind (T0.at (wpAny_bind (T3.at ?_)))))))
  change wpAny _ _ (holding [Value.builtin "object.__class__"] (call (.builtin "getset_descriptor.__get__") [.builtin "object.__class__", .ref x, .ref D]) >>= ret) _ _ _
  refine wpAny_bind (wpAny_holding (wpAny_call (class_get (s := ⟨hp, g, d, t + 1, os⟩) (ox := ox) (od := od) X I C.hm (wpAny_pure ?_))))
  change wpAny _ _ (handedOut (.ref D)) _ _ _
  rw [handedOut_of (v := .ref D) rfl]
  first
    | exact wpAny_pure (wpAny_pure h)
    | exact wpAny_pure h
    | exact wpAny_pure (wpAny_bind (wpAny_pure (wpAny_pure h)))
theorem xh_kitx (C : ExcC K D) : KitX K (.ref x) (.ref D) (fun h => InstAt h x ox D od) := by
  obtain ⟨cd, hcd, _⟩ := any_some C.hd
  refine ⟨fun _ _ _ I => I.type, fun _ _ X _ => ?_, fun h tp dd its n sl X htp => ?_, fun X I k => xh_class C X I k⟩
  all_goals unfold clsIn at hcd
  all_goals split at hcd
  · rename_i ho
    exact fun A' Q' E' s' k q => by unfold isType loadHead; exact wpAny_bind (wpAny_loadPart (k _ _ (X _ _ ho)) (wpAny_pure q))
  · cases hcd
  · rename_i ho
    refine Bool.eq_false_iff.mpr fun q => ?_
    obtain rfl : D = tp := Value.ref.inj (beq_iff_eq.mp q)
    exact nomatch (X _ _ ho).symm.trans htp
  · cases hcd
end
end PySem.W
namespace Ev
open PySem PySem.Spec PySem.Calls PyProof.Rows L2
variable {X : Cx} {c : Cp} {F G H F' G' H' : Hp} {σ : L2.St} {δ : Env} {a b e tg : Expr} {es : List Expr} {pos p : Pos} {x : Str} {ta tb tc ty rt : Ty} {oa ob oc o : OT} {os : List OT} {fa fb fc : Env → Option R} {fs : Env → Option RL} {st : Stmt} {ss : List Stmt} {A A' : List Addr} {ty : Ty} {vc : V}
/-- what is known of the own error class ci -/
structure XCl (K : PySem.W.Frag) (ci : Nat) : Prop where
  f : XfC K (He.ga K (excT ci).name)
  c : ExcC K (He.ga K (excT ci).name)
  n : ∀ f ∈ (excT ci).fields, PySem.W.findIn K (.ref (He.ga K (excT ci).name)) f = some none
/-- isinstance(e, C), e the exception a of class D; its dict may be there -/
theorem xh_isi {a D : Addr} {oe : Obj} {d : Option Addr} {pn : List (Addr × Obj)} (C : ExcC X.K D) (hz : Zc (.ref D) d oe) (hf : ∃ vs, oe.data = .fields vs) : CallR (X.suite a ((a, oe) :: pn)) (.builtin "isinstance") (fun xs H Q => (∀ dd, d = some dd → ∃ z, H dd = some (.xd z)) ∧ rIsE X.K D a xs H Q) := by
  intro pins s σ H xs us Q I r h
  obtain ⟨hdd, cq, cv, b, rfl, hcv, e, q⟩ := h
  obtain ⟨_, _, rx, rr⟩ : ∃ u us', RelV (V.ref a) u ∧ us = u :: us' := by cases r with | cons r1 r2 => exact ⟨_, _, r1, rfl⟩
  subst rr
  cases r with
  | cons rx rr =>
    cases rr with
    | cons rt rr =>
      cases rr
      cases rx
      obtain rfl := hcv _ rt
      obtain ⟨hget, _⟩ := I.pin (a, oe) (List.mem_append.mpr (.inl List.mem_cons_self))
      obtain ⟨vs, hv⟩ := hf
      have J : ∃ od, PySem.W.InstAt s.heap a oe D od := by
        cases d with
        | none =>
          refine ⟨none, ?_⟩
          obtain ⟨oc, od, oda, osl⟩ := oe
          obtain ⟨h1, h2⟩ := hz
          dsimp only at h1 h2 hv
          subst h1 h2 hv
          exact ⟨hget, rfl, rfl, trivial⟩
        | some dd =>
          obtain ⟨z, hz1⟩ := hdd dd rfl
          have hx : ObjOk X.prog X.w H s.heap dd (.xd z) := I.hok dd _ hz1
          obtain ⟨mA, hns, hr⟩ := hx
          obtain ⟨od, ho, hl⟩ := lookIn_ns hns
          exact ⟨some od, ⟨hget, hz.1, by unfold PySem.W.notCls; rw [hv] <;> rfl, by rw [hz.2]; exact ho⟩⟩
      obtain ⟨od, J⟩ := J
      exact PySem.W.kia_one (PySem.W.xh_kitx C) I.kIn J e (fun z => nomatch z) fun tk => ⟨.bl b, H, I.kept (t' := tk) fun _ _ z => z, rfl, q⟩
theorem oexB_ok {K : PySem.W.Frag} {C : Addr} (h : oexB K C = true) : OexC K C := by
  obtain ⟨h1, h⟩ := He.ba h
  obtain ⟨h2, h⟩ := He.ba h
  obtain ⟨h3, h⟩ := He.ba h
  obtain ⟨h4, h5⟩ := He.ba h
  refine ⟨?_, He.eqO_ok h2, of_decide_eq_true h3, of_decide_eq_true h4, h5⟩
  split at h1
  · rename_i ty dd cd sl e
    split at h1
    · rename_i C' bm k0 k1 k2 k3 n k5 hm hs
      obtain ⟨g1, g⟩ := He.ba h1
      obtain ⟨g2, g⟩ := He.ba g
      obtain ⟨g3, g⟩ := He.ba g
      obtain ⟨g4, g⟩ := He.ba g
      obtain ⟨g5, g6⟩ := He.ba g
      obtain rfl := of_decide_eq_true g1
      obtain rfl := of_decide_eq_true g2
      obtain rfl := of_decide_eq_true g3
      obtain ⟨nm, bs, mro, ns, qn, hd, sn, sub, ab, col, del⟩ := cd
      dsimp only at hm g4 g5
      subst hm
      obtain rfl : hd = true := g5
      obtain rfl : del = false := by simpa using g4
      obtain ⟨sl⟩ := sl
      dsimp only at hs
      subst hs
      exact ⟨nm, qn, ns, bs, bm, sn, sub, ab, col, dd, k0, k1, k2, k3, k5, e, g6⟩
    · cases h1
  · cases h1
theorem iniCB_ok {K : PySem.W.Frag} {D C : Addr} {flds : List Str} (h : iniCB K D C flds = true) : IniC K D C flds := by
  obtain ⟨h1, h⟩ := He.ba h
  obtain ⟨h2, h⟩ := He.ba h
  obtain ⟨h3, h⟩ := He.ba h
  obtain ⟨h4, h5⟩ := He.ba h
  exact ⟨oexB_ok h1, He.eqO_ok h2, of_decide_eq_true h3, of_decide_eq_true h4, fun f hf => He.eqO_ok (List.all_eq_true.mp h5 f hf)⟩
theorem xclB_ok {K : PySem.W.Frag} {ci : Nat} (h : xclB K (He.ga K (excT ci).name) (excT ci).fields = true) : XCl K ci := by
  obtain ⟨h1, h⟩ := He.ba h
  obtain ⟨h2, h⟩ := He.ba h
  obtain ⟨h3, h⟩ := He.ba h
  obtain ⟨h4, h⟩ := He.ba h
  obtain ⟨h5, h6⟩ := He.ba h
  have T := xfB_ok h1
  exact ⟨T, ⟨T.ga, T.gg, T.exC, T.hdC, He.eqO_ok h2, He.eqO_ok h3, of_decide_eq_true h4, of_decide_eq_true h5⟩, fun f hf => He.eqO_ok (List.all_eq_true.mp h6 f hf)⟩
theorem iniK_ok {P : Program} {K : PySem.W.Frag} {D : Addr} {qual file : Str} {name : Str} {params : Arguments} {body : List Stmt} {scope : Scope} (h : iniKB K D qual file = true) (hP : P.main.file = file) (hT : (P.main.scope.names.lookup ("super" : Str)).isSome = false)
    (hs : ∃ (oc : Value) (od : Option Addr) (osl : Array (Option Value)) (fd : FuncData), K.lookup (He.ma K D "__init__") = some ⟨oc, od, .func fd, osl⟩ ∧ fd.name = name ∧ fd.qualname = qual ∧ fd.params = params ∧ fd.body = .stmts body ∧ fd.scope = scope ∧ fd.globals = mainGlobals ∧ fd.builtins = builtinsNs ∧
      PySem.W.codeIn K fd.code qual = true ∧ He.dflB K fd.defaults [] = true ∧ He.kwdB K fd.kwdefaults [] = true) :
    ∃ (cc cda : Addr) (fd : FuncData), IniK P K D (He.ma K D "__init__") cc cda name qual params body scope fd ∧ PySem.W.typeIn K (.ref (He.ma K D "__init__")) = some (.type "function") ∧ ∃ kV doc pm ct, fd = PySem.W.ksFn name qual params body scope .none kV doc pm none (.ref cda) ct cc := by
  obtain ⟨oc, od, osl, fd, lk, n1, n2, n3, n4, n5, n6, n7, hcd, hD, hK⟩ := hs
  obtain ⟨h1, h⟩ := He.ba h
  obtain ⟨h2, h⟩ := He.ba h
  obtain ⟨h3, h⟩ := He.ba h
  obtain ⟨h4, h5⟩ := He.ba h
  rw [lk] at h1
  obtain ⟨m1, m2, m3, m4, m5, m6, m7, m8, m9, m10, m11, m12, m13, m14, m15⟩ := fd
  dsimp only at n1 n2 n3 n4 n5 n6 n7 hcd hD hK
  subst n1 n2 n3 n4 n5 n6 n7
  split at h1
  · rename_i eq
    cases eq
    split at h1
    case h_2 => cases h1
    rename_i n cc cda e1 e2
    have e3 : m7 = [(n, cc)] := e1
    have e4 : m13 = .ref cda := e2
    clear e1 e2
    subst e3 e4
    obtain ⟨g1, g⟩ := He.ba h1
    obtain ⟨g2, g⟩ := He.ba g
    obtain ⟨g3, g4⟩ := He.ba g
    obtain rfl := of_decide_eq_true g1
    obtain rfl := Option.isNone_iff_eq_none.mp g2
    have hdv : m8 = .none := by
      rcases He.dflB_ok hD with ⟨_, q⟩ | ⟨q, _⟩
      · exact q
      · exact absurd rfl q
    subst hdv
    refine ⟨cc, cda, _, ⟨⟨oc, od, osl, lk⟩, ⟨.none, m9, m10, m11, m14, rfl⟩, hcd, ?_, ?_, hT, He.eqO_ok h2, He.eqO_ok h3, Option.isSome_iff_exists.mp h4⟩, of_decide_eq_true h5, m9, m10, m11, m14, rfl⟩
    · split at g4
      · rename_i ccl cdd vs ccs eq
        split at g4
        · rename_i z1 z2 fl tf r ev
          refine ⟨ccl, cdd, vs, ccs, fl, tf, eq, ?_, ?_⟩
          · obtain ⟨vs⟩ := vs
            dsimp only at ev
            subst ev
            rfl
          · rw [hP, eq_of_beq g4]
            exact beq_self_eq_true _
        · cases g4
      · cases g4
    · split at g3
      · rename_i cl cld D' csl eq
        obtain rfl := of_decide_eq_true g3
        exact ⟨cl, cld, csl, eq⟩
      · cases g3
  · rename_i hne
    exact (hne _ _ _ _ rfl).elim
/-- a class with one field can be made -/
theorem xmk1 {P : Program} {w : World} {K : PySem.W.Frag} {mg : Str → Option Value} {base : Heap} {ci : Nat} {D : Addr} {qual file name : Str} {params : Arguments} {body : List Stmt} {scope : Scope} {N : List Str} {fl : Str}
    {p0 p1 p2 p3 pos p4 q1 q2 q3 q4 : Pos} {z1 : Str} {j1 : Nat} {ar : Arg} {pl : PySem.Env → Sem Bool}
    (h : iniKB K D qual file = true) (hP : P.main.file = file) (hT : (P.main.scope.names.lookup ("super" : Str)).isSome = false)
    (hs : PySem.W.keepIn K (.ref (He.ma K D "__init__")) = true ∧ ∃ (oc : Value) (od : Option Addr) (osl : Array (Option Value)) (fd : FuncData), K.lookup (He.ma K D "__init__") = some ⟨oc, od, .func fd, osl⟩ ∧ fd.name = name ∧ fd.qualname = qual ∧ fd.params = params ∧ fd.body = .stmts body ∧ fd.scope = scope ∧ fd.globals = mainGlobals ∧ fd.builtins = builtinsNs ∧
      PySem.W.codeIn K fd.code qual = true ∧ He.dflB K fd.defaults [] = true ∧ He.kwdB K fd.kwdefaults [] = true)
    (hC : iniCB K D (He.ga K (excT ci).name) [fl] = true) (hf : He.eqO (PySem.W.findIn K (.ref (He.ga K (excT ci).name)) "__init__") (some (some (.ref (He.ma K D "__init__")))) = true) (hg : mg (excT ci).name = some (.ref (He.ga K (excT ci).name))) (hfl : (excT ci).fields = [fl])
    (S : NdefX.NScope N [ar.arg, fl] ["__class__"] scope) (hbd : body = [.Expr (.Call (.Attribute (.Call (.Name "super" p0) [] [] p1) "__init__" p2) [.Constant (.str z1) j1 p3] [] pos) p4, .Assign [.Attribute (.Name ar.arg q1) fl q2] (.Name fl q3) q4])
    (hks : scope.names.lookup ("super" : Str) = some .globalImplicit) (hp : (params.posonlyargs ++ params.args).head? = some ar)
    (hev : ∀ env : PySem.Env, eval (.Call (.Attribute (.Call (.Name "super" p0) [] [] p1) "__init__" p2) [.Constant (.str z1) j1 p3] [] pos) env = (do
      let ov ← attributeBase (.Call (.Name "super" p0) [] [] p1) "__init__" env (eval (.Call (.Name "super" p0) [] [] p1) env)
      standAt p2.atName
      let (f, first) ← holding [ov] (getMethod ov "__init__" (pl env))
      callWith pos f first (backTo pos (starEach [.Constant (.str z1) j1 p3] env)) []))
    (hsw : ∀ env : PySem.Env, swapsWith (.Name fl q3) (some (.Attribute (.Name ar.arg q1) fl q2)) q4.line env = pure false)
    (h0 : N[0]? = some ar.arg) (h1 : N[1]? = some fl) (n0 : (ar.arg == ("__debug__" : Str)) = false ∧ (ar.arg == ("__classdict__" : Str)) = false) (n1 : (fl == ("__debug__" : Str)) = false ∧ (fl == ("__classdict__" : Str)) = false)
    (hbi : ∀ (kV doc pm : Value) (cdv ct : Value) (cc : Addr) (us : List Value), us.length = 2 → bindArgs (PySem.W.ksFn name qual params body scope .none kV doc pm none cdv ct cc) ⟨us, []⟩ = pure ([ar.arg, fl].zip us)) :
    XMk P w K mg base ci 1 := by
  obtain ⟨cc, cda, fd, IK, ht, kV, doc, pm, ct, e⟩ := iniK_ok h hP hT hs.2
  refine ⟨⟨D, He.ma K D "__init__", fd, [ar.arg, fl], ?_, He.eqO_ok hf, ht, ?_, ?_⟩, hg, ⟨fl, [], hfl⟩⟩
  · rw [hfl]
    exact ini1_ok (k := 0) IK S hbd hks hp hev hsw h0 h1 n0 n1
  · subst e
    exact .all (hbi kV doc pm (.ref cda) ct cc)
  · rw [hfl]
    exact iniCB_ok hC
/-! ### in a suite: slot i holds the caught error -/
def evX (i : Nat) (r : Option D) : Env → Option R := fun δ => match δ[i]? with
  | some (some .xv) => okO r
  | _ => none
theorem evX_at {i : Nat} {r : Option D} {Q : VK} (h : Gv c ty F H σ Q (evX i r δ)) : δ[i]? = some (some .xv) ∧ Gv c ty F H σ Q (okO r) := by
  unfold evX at h
  split at h
  · rename_i e
    exact ⟨e, h⟩
  · exact h.elim
theorem look_of_mem {f : Str} {v : V} : ∀ {l : List (Str × V)}, (f, v) ∈ l → (l.map (·.1)).Nodup → l.lookup f = some v
  | [], h, _ => by cases h
  | (g, w) :: l, h, n => by
    rw [List.map_cons, List.nodup_cons] at n
    rw [List.lookup_cons]
    rcases List.mem_cons.mp h with e | h2
    · cases e
      rw [beq_self_eq_true]
    · have : (f == g) = false := by
        rw [beq_eq_false_iff_ne]
        intro z
        subst z
        exact n.1 (List.mem_map.mpr ⟨(f, v), h2, rfl⟩)
      rw [this]
      exact look_of_mem h2 n.2
theorem excT_nd (n : Nat) : (excT n).fields.Nodup := by
  unfold excT
  split <;> decide
theorem mem_zip_of {f : Str} : ∀ {fs : List Str} {vs : List V} {j : Nat} {v : V}, fldIx f fs = some j → vs[j]? = some v → (f, v) ∈ fs.zip vs ∧ f ∈ fs
  | fs, vs, j, v, h1, h2 => by
    obtain ⟨q1, q2⟩ := fldIx_zip h1 h2
    refine ⟨?_, q2⟩
    clear q2 h1 h2
    induction fs generalizing vs with
    | nil => cases q1
    | cons g fs ih =>
      cases vs with
      | nil => cases q1
      | cons w vs =>
        rw [List.zip_cons_cons, List.lookup_cons] at q1
        rw [List.zip_cons_cons]
        split at q1
        · rename_i e
          rw [eq_of_beq e]
          cases q1
          exact List.mem_cons_self ..
        · exact List.mem_cons_of_mem _ (ih _ q1)
section
variable {i : Nat} {en f : Str} {xd : Xd} {ad : Addr} {oe : Obj} {d : Option Addr} {pn : List (Addr × Obj)} {F0 : Hp}
theorem pe_xn (hK : X.K = c.K) (hi : i < c.Ks.length) (n : Nm X.N X.env.scope i en) : PE (X.suite ad ((ad, oe) :: pn)) (.Name en p) (fun σ H Q => ∃ F δ, (c.hc i ad F0).E F H σ δ ∧ δ[i]? = some (some .xv) ∧ Q (.ref ad) H) := by
  refine PE.imp (pe_var (X := X.suite ad ((ad, oe) :: pn)) n.n n.v n.d n.cd) fun σ H Q h => ?_
  obtain ⟨F, δ, E, e, q⟩ := h
  obtain ⟨As, h1, _⟩ := EnvOk.sl E
  obtain ⟨v, e1, s⟩ := h1 i (.pn .fz (.ref ad)) .xv (List.getElem?_set_self hi) e
  obtain ⟨rfl, _⟩ := s
  exact ⟨_, e1, q⟩
theorem e_xf (M : XCl c.K xd.c) (hz : Zc (.ref (He.ga c.K (excT xd.c).name)) d oe) (hd : ∃ vs, oe.data = .fields vs) (xr : ∀ H1, XRep c.K F0 H1 xd (.ref (He.ga c.K (excT xd.c).name)) d) (hK : X.K = c.K) (n : Nm X.N X.env.scope i en) (hi : i < c.Ks.length)
    (hb : attributeBase (.Name en p) f X.env (eval (.Name en p) X.env) = eval (.Name en p) X.env) :
    PE (X.suite ad ((ad, oe) :: pn)) (.Attribute (.Name en p) f pos) (tV (c.hc i ad F0) (.vw .fz) (evX i ((fldIx f (excT xd.c).fields).bind fun j => xd.args[j]?))) := by
  by_cases hf : f ∈ (excT xd.c).fields
  · refine PE.imp (pe_xf (X := X) (C := He.ga c.K (excT xd.c).name) (hK ▸ M.f) (hK ▸ M.n f hf) hz hd (pe_xn (F0 := F0) hK hi n) hb) fun σ H Q h => ?_
    obtain ⟨F, δ, E, h⟩ := h
    obtain ⟨e, h⟩ := evX_at h
    refine ⟨F, δ, E, e, rfl, rfl, ?_⟩
    have x1 := (xr H).2
    cases e1 : fldIx f (excT xd.c).fields with
    | none => rw [e1] at h; exact h.elim
    | some j =>
      rw [e1] at h
      obtain ⟨r, er, q⟩ := Gv.okO h
      have er : xd.args[j]? = some r := er
      split at x1
      · rename_i e0
        rw [e0] at hf
        cases hf
      · rename_i f0 fs0 e0
        obtain ⟨dd, vs, rfl, hdd, hl, hi2⟩ := x1
        rw [← e0] at hdd hl
        obtain ⟨v, hv, hiv⟩ := hi2.get er
        obtain ⟨z1, z2⟩ := mem_zip_of e1 hv
        refine ⟨dd, _, v, rfl, E.fh _ _ (E.f0 _ _ hdd), look_of_mem (List.mem_reverse.mpr z1) ?_, q v F H (Up.refl E.fh) (hiv.mono E.f0)⟩
        rw [List.map_reverse, List.map_fst_zip (by omega)]
        exact List.pairwise_reverse.mpr ((excT_nd _).imp fun z => Ne.symm z)
  · have nn : fldIx f (excT xd.c).fields = none := by
      cases q : fldIx f (excT xd.c).fields with
      | none => rfl
      | some j =>
        exfalso
        revert q hf
        generalize (excT xd.c).fields = l
        intro hf q
        induction l generalizing j with
        | nil => cases q
        | cons g r ih =>
          unfold fldIx at q
          by_cases hg : g = f
          · exact hf (by rw [hg]; exact List.mem_cons_self ..)
          · rw [if_neg hg] at q
            cases q2 : fldIx f r with
            | none => rw [q2] at q; cases q
            | some j2 => exact ih _ (fun z => hf (List.mem_cons_of_mem _ z)) q2
    refine ⟨fun pins s σ H Q I h => ?_⟩
    obtain ⟨F, δ, E, h⟩ := h
    obtain ⟨e, h⟩ := evX_at h
    rw [nn] at h
    exact h.elim
theorem e_xis {tb : List (Nat × Bool)} {xi xt : Str} {pi pt : Pos} {cv : Value} (htb : ∀ q ∈ tb, PySem.W.kitOne c.K (.ref (He.ga c.K (excT q.1).name)) cv = some q.2) (hcl : PE (X.suite ad ((ad, oe) :: pn)) (.Name xt pt) (tC vc)) (hvc : ∀ u, RelV vc u → u = cv)
    (M : XCl c.K xd.c) (hz : Zc (.ref (He.ga c.K (excT xd.c).name)) d oe) (hd : ∃ vs, oe.data = .fields vs) (xr : ∀ H1, XRep c.K F0 H1 xd (.ref (He.ga c.K (excT xd.c).name)) d) (hK : X.K = c.K) (n : Nm X.N X.env.scope i en) (hi : i < c.Ks.length)
    (B : Gl X xi ∧ X.mg xi = none) (hv : bootBuiltins xi = some (.builtin "isinstance")) (hn : xi ≠ "__name__") (hdb : (xi == ("__debug__" : Str)) = false)
    (hs : starEach [.Name en p, .Name xt pt] X.env = (false, eval (.Name en p) X.env) :: starEach [.Name xt pt] X.env) (hs2 : (backTo pos (starEach [.Name xt pt] X.env)).any (·.1) = false) :
    PE (X.suite ad ((ad, oe) :: pn)) (.Call (.Name xi pi) [.Name en p, .Name xt pt] [] pos) (tV (c.hc i ad F0) (.vw .fz) (evX i ((tb.lookup xd.c).map .bl))) := by
  refine PE.imp (pe_callB (X := X.suite ad ((ad, oe) :: pn)) (xh_isi (X := X) (D := He.ga c.K (excT xd.c).name) (hK ▸ M.c) hz hd) B.1 B.2 hv (pa_cons (pe_xn (F0 := F0) hK hi n) (pa_cons hcl pa_nil) hs) hn hdb hs hs2) fun σ H Q h => ?_
  obtain ⟨F, δ, E, h⟩ := h
  obtain ⟨e, h⟩ := evX_at h
  cases e1 : tb.lookup xd.c with
  | none => rw [e1] at h; exact h.elim
  | some b =>
    rw [e1] at h
    obtain ⟨r, er, q⟩ := Gv.okO h
    cases er
    refine ⟨F, δ, E, e, fun dd hdd => ?_, vc, cv, b, rfl, hvc, hK ▸ htb _ (look_tb e1), q _ F H (Up.refl E.fh) (by simp only [Is])⟩
    have x1 := (xr H).2
    split at x1
    · rw [x1] at hdd; cases hdd
    · obtain ⟨d2, vs, e2, h2, _⟩ := x1
      rw [e2] at hdd
      cases hdd
      exact ⟨_, E.fh _ _ (E.f0 _ _ h2)⟩
end
theorem lt_len {α : Type} {l : List α} {i n : Nat} (h : i < n) (e : n = l.length) : i < l.length := e ▸ h
section
variable {i : Nat} {en f : Str} {xd : Xd} {ad : Addr} {oe : Obj} {d : Option Addr} {pn : List (Addr × Obj)} {F0 : Hp}
theorem e_xisG {tb : List (Nat × Bool)} {xi xt : Str} {pi pt : Pos} {C : Addr} (htb : ∀ q ∈ tb, PySem.W.kitOne c.K (.ref (He.ga c.K (excT q.1).name)) (.ref C) = some q.2) (hg : Gl X xt) (hm : X.mg xt = some (.ref C)) (hdt : (xt == ("__debug__" : Str)) = false)
    (M : XCl c.K xd.c) (hz : Zc (.ref (He.ga c.K (excT xd.c).name)) d oe) (hd : ∃ vs, oe.data = .fields vs) (xr : ∀ H1, XRep c.K F0 H1 xd (.ref (He.ga c.K (excT xd.c).name)) d) (hK : X.K = c.K) (n : Nm X.N X.env.scope i en) (hi : i < c.Ks.length)
    (B : Gl X xi ∧ X.mg xi = none) (hv : bootBuiltins xi = some (.builtin "isinstance")) (hn : xi ≠ "__name__") (hdb : (xi == ("__debug__" : Str)) = false)
    (hs : starEach [.Name en p, .Name xt pt] X.env = (false, eval (.Name en p) X.env) :: starEach [.Name xt pt] X.env) (hs2 : (backTo pos (starEach [.Name xt pt] X.env)).any (·.1) = false) :
    PE (X.suite ad ((ad, oe) :: pn)) (.Call (.Name xi pi) [.Name en p, .Name xt pt] [] pos) (tV (c.hc i ad F0) (.vw .fz) (evX i ((tb.lookup xd.c).map .bl))) :=
  e_xis (vc := .ref C) htb (pe_glob (X := X.suite ad ((ad, oe) :: pn)) hg hm (show RelV (.ref C) (.ref C) from rfl) hdt) (fun _ h => h) M hz hd xr hK n hi B hv hn hdb hs hs2
theorem e_xisT {tb : List (Nat × Bool)} {xi xt : Str} {pi pt : Pos} {T : String} (htb : ∀ q ∈ tb, PySem.W.kitOne c.K (.ref (He.ga c.K (excT q.1).name)) (.type T) = some q.2) (hg : Gl X xt) (hm : X.mg xt = none) (hbt : bootBuiltins xt = some (.type T)) (hnt : xt ≠ "__name__") (hdt : (xt == ("__debug__" : Str)) = false)
    (M : XCl c.K xd.c) (hz : Zc (.ref (He.ga c.K (excT xd.c).name)) d oe) (hd : ∃ vs, oe.data = .fields vs) (xr : ∀ H1, XRep c.K F0 H1 xd (.ref (He.ga c.K (excT xd.c).name)) d) (hK : X.K = c.K) (n : Nm X.N X.env.scope i en) (hi : i < c.Ks.length)
    (B : Gl X xi ∧ X.mg xi = none) (hv : bootBuiltins xi = some (.builtin "isinstance")) (hn : xi ≠ "__name__") (hdb : (xi == ("__debug__" : Str)) = false)
    (hs : starEach [.Name en p, .Name xt pt] X.env = (false, eval (.Name en p) X.env) :: starEach [.Name xt pt] X.env) (hs2 : (backTo pos (starEach [.Name xt pt] X.env)).any (·.1) = false) :
    PE (X.suite ad ((ad, oe) :: pn)) (.Call (.Name xi pi) [.Name en p, .Name xt pt] [] pos) (tV (c.hc i ad F0) (.vw .fz) (evX i ((tb.lookup xd.c).map .bl))) :=
  e_xis (vc := .ty T) htb (pe_bltn (X := X.suite ad ((ad, oe) :: pn)) hg hm hbt (v := .ty T) rfl hnt hdt) (fun u h => by cases h; rfl) M hz hd xr hK n hi B hv hn hdb hs hs2
end
def fXf (i : Nat) (f : Str) (x : Xd) : Env → Option R := evX i ((fldIx f (excT x.c).fields).bind fun j => x.args[j]?)
def fXi (i : Nat) (tb : List (Nat × Bool)) (x : Xd) : Env → Option R := evX i ((tb.lookup x.c).map .bl)
theorem exmB_ok {K : PySem.W.Frag} {tb : List (Nat × Bool)} {ts : List (Str × Bool)} {C : Str} (h : exmB K ts C = true) (e : tb.map (fun q => ((excT q.1).name, q.2)) = ts) : ∀ q ∈ tb, PySem.W.exmOne K (.ref (He.ga K (excT q.1).name)) (.ref (He.ga K C)) = some q.2 := fun q hq => by
  subst e
  exact of_decide_eq_true (List.all_eq_true.mp h _ (List.mem_map.mpr ⟨q, hq, rfl⟩))
theorem kitB_ok {K : PySem.W.Frag} {tb : List (Nat × Bool)} {ts : List (Str × Bool)} {C : Str} (h : kitB K ts C = true) (e : tb.map (fun q => ((excT q.1).name, q.2)) = ts) : ∀ q ∈ tb, PySem.W.kitOne K (.ref (He.ga K (excT q.1).name)) (.ref (He.ga K C)) = some q.2 := fun q hq => by
  subst e
  exact of_decide_eq_true (List.all_eq_true.mp h _ (List.mem_map.mpr ⟨q, hq, rfl⟩))
theorem kitTB_ok {K : PySem.W.Frag} {tb : List (Nat × Bool)} {ts : List (Str × Bool)} {T : String} (h : kitTB K ts T = true) (e : tb.map (fun q => ((excT q.1).name, q.2)) = ts) : ∀ q ∈ tb, PySem.W.kitOne K (.ref (He.ga K (excT q.1).name)) (.type T) = some q.2 := fun q hq => by
  subst e
  exact of_decide_eq_true (List.all_eq_true.mp h _ (List.mem_map.mpr ⟨q, hq, rfl⟩))
theorem xc_mem {K : PySem.W.Frag} {tb L : List (Nat × Bool)} {n : Nat} (h : ∀ q ∈ L, XCl K q.1) (e : tb.map (·.1) = L.map (·.1)) (hm : (n, true) ∈ tb) : XCl K n := by
  have h1 : n ∈ L.map (·.1) := e ▸ List.mem_map.mpr ⟨(n, true), hm, rfl⟩
  obtain ⟨q, hq, rfl⟩ := List.mem_map.mp h1
  exact h q hq
end Ev

set_option maxHeartbeats 4000000
/-! Ev, part Xd: a name's own dict (d[k] = v, d.get(k, z)), x += e and x -= e of whole numbers. -/
namespace Ev
open PySem PySem.Spec PySem.Calls PyProof.Rows L2
variable {X : Cx} {c : Cp} {F G H F' G' H' : Hp} {σ : L2.St} {δ : Env} {a b e tg : Expr} {es : List Expr} {pos p : Pos} {x : Str} {ta tb tc ty rt : Ty} {oa ob oc o : OT} {os : List OT} {fa fb fc : Env → Option R} {fs : Env → Option RL} {st : Stmt} {ss : List Stmt} {A A' : List Addr}
theorem EnvOk.dict {K : PySem.W.Frag} {Ks : List Kd} {F0 : Hp} (E : EnvOk K Ks F0 G F H σ δ) {i : Nat} {vs0 : List D} {ks : List Key} (hk : OwnK Ks i .dic) (hd : δ[i]? = some (some (.dic ks vs0))) :
    ∃ l kvs, σ[i]? = some (some (.ref l)) ∧ H l = some (.dK kvs) ∧ kvs.map (·.1) = ks ∧ IsL K F vs0 (kvs.map (·.2)) ∧
      ∀ kvs' vs', IsL K F vs' (kvs'.map (·.2)) → EnvOk K Ks F0 G F (upd H l (.dK kvs')) σ (δ.set i (some (.dic (kvs'.map (·.1)) vs'))) := by
  obtain ⟨v, A, eσ, ow, nd, hA, put⟩ := EnvOk.own E hk hd
  simp only [Own] at ow
  obtain ⟨l, kvs, rfl, hL, hks, hI, rfl⟩ := ow
  have fl : F l = none := (hA l (by simp)).1
  refine ⟨l, kvs, eσ, hL, hks, hI, fun kvs' vs' hI' => ?_⟩
  refine put (A' := [l]) ?_ (by simp) (Same.refl _) (fun b u q => ?_) (fun b _ q _ => q) (fun b hb => .inl hb) (fun b hb => ?_) fun b nb _ => upd_ne fun z => nb (by simp [z])
  · simp only [Own]
    exact ⟨l, kvs', rfl, upd_same, rfl, hI', rfl⟩
  · rw [upd_ne fun z => by rw [z, fl] at q; cases q]; exact E.fh b u q
  · have : b = l := by simpa using hb
    rw [this]; exact fl
def dicI (δ : Env) (i : Nat) : Option (List Key × List D) := match δ[i]? with
  | some (some (.dic ks vs)) => some (ks, vs)
  | _ => none
theorem dicI_some {i : Nat} {ks : List Key} {vs : List D} (h : dicI δ i = some (ks, vs)) : δ[i]? = some (some (.dic ks vs)) := by
  unfold dicI at h
  split at h
  · rename_i q; cases h; exact q
  · cases h
def sDput (i : Nat) (fk fv : EF) : So := fun δ => bndS (fv δ) δ fun v => (dicI δ i).bind fun q => bndS (fk δ) δ fun y => (keyD y).bind fun k => if q.1.length < sizeLine then some (.nx (δ.set i (some (.dic (putKs k q.1) (putDs k v q.1 q.2))))) else none
theorem st_dput {i : Nat} {p' : Pos} {k : Expr} (hu : X.A.units + 1 < cLine) (n : Nm X.N X.env.scope i x) (hk : OwnK c.Ks i .dic)
    (hv : PE X a (tV c ta fa)) (ca : coe ta .fz = true) (hkk : PE X k (tV c tb fb)) (cb : coe tb .fz = true) (hs : swapsWith a (some (.Subscript (.Name x p) k p')) pos.line X.env = pure false) :
    PS X (.Assign [.Subscript (.Name x p) k p'] a pos) (tS c rt (sDput i fb fa)) := by
  refine PS.imp (ps_dput hu (pe_var n.n n.v n.d n.cd) hkk hv hs) fun D σ H h => ?_
  obtain ⟨F, δ, E, h⟩ := h
  refine tV.goS ca E h fun d v F1 H1 u1 E1 ⟨A, hx⟩ h1 => ?_
  obtain ⟨⟨ks, vs0⟩, e1, h1⟩ := bind_someO h1
  obtain ⟨l, kvs, eσ, hL, hks, hI, _⟩ := EnvOk.dict E1 hk (dicI_some e1)
  refine ⟨_, eσ, ?_⟩
  refine tV.goS cb E1 h1 fun y vy F2 H2 u2 E2 ⟨B, hy⟩ h2 => ?_
  obtain ⟨k0, e4, h2⟩ := bind_someO h2
  obtain ⟨l1, kvs1, eσ1, hL1, hks1, hI1, put⟩ := EnvOk.dict E2 hk (dicI_some e1)
  rw [eσ] at eσ1
  have e5 : l = l1 := by cases eσ1; rfl
  subst e5
  have h2 : Gs c rt F2 D (if ks.length < sizeLine then some (.nx (δ.set i (some (.dic (putKs k0 ks) (putDs k0 d ks vs0))))) else none) := h2
  by_cases g : ks.length < sizeLine
  · rw [if_pos g] at h2
    obtain ⟨p1, p2⟩ := putK_is (k := k0) (hx.is.mono u2.ff) hI1
    refine ⟨l, _, rfl, .inl ⟨kvs1, k0, hL1, keyD_is e4 hy.is, by rw [← hks1, List.length_map] at g; exact g, rfl⟩, Gs.nx h2 ?_⟩
    have := put _ _ p2
    rw [p1, hks1] at this
    exact this
  · rw [if_neg g] at h2; exact h2.elim
def fDget (i : Nat) (fk fz : EF) : EF := fun δ => match dicI δ i with
  | some q => bnd (fk δ) fun y => bnd (fz δ) fun z => okO ((keyD y).map fun k => (lookD k q.1 q.2).getD z)
  | none => none
theorem e_dget {i : Nat} {apos cpos : Pos} {k z : Expr} (hu : X.A.units + 1 < cLine) (n : Nm X.N X.env.scope i x) (hk : OwnK c.Ks i .dic) (hkk : PE X k (tV c tb fb)) (cb : coe tb .fz = true) (hz : PE X z (tV c tc fc)) (cz : coe tc .fz = true) (m : M2 X (.Name x p) "get" apos k z cpos) :
    PE X (.Call (.Attribute (.Name x p) "get" apos) [k, z] [] cpos) (tV c (.vw .fz) (fDget i fb fc)) := by
  refine PE.imp (pe_dget2 hu (pe_var n.n n.v n.d n.cd) hkk hz m) fun σ H Q h => ?_
  obtain ⟨F, δ, E, h⟩ := h
  unfold fDget at h
  cases e1 : dicI δ i with
  | none => rw [e1] at h; exact h.elim
  | some q =>
    rw [e1] at h
    obtain ⟨ks, vs0⟩ := q
    obtain ⟨l, kvs, eσ, hL, hks, hI, _⟩ := EnvOk.dict E hk (dicI_some e1)
    refine ⟨_, eσ, l, rfl, .inl ⟨kvs, .inl hL⟩, ?_⟩
    refine tV.goV cb E h fun y vy F1 H1 u1 E1 ⟨B, hy⟩ h1 => ?_
    refine tV.goV cz E1 h1 fun z vz F2 H2 u2 E2 ⟨B2, hz⟩ h2 => ?_
    obtain ⟨r, er, q⟩ := Gv.okO h2
    obtain ⟨k0, e4, rfl⟩ := Option.map_eq_some_iff.mp er
    obtain ⟨l1, kvs1, eσ1, hL1, hks1, hI1, _⟩ := EnvOk.dict E2 hk (dicI_some e1)
    rw [eσ] at eσ1
    have e5 : l = l1 := by cases eσ1; rfl
    subst e5
    have hy2 := keyD_is e4 (hy.is.mono u2.ff)
    refine ⟨valV kvs1 k0, hy2 ▸ DGet.k hL1, ?_⟩
    subst hks1
    cases e6 : lookD k0 (kvs1.map (·.1)) vs0 with
    | none =>
      rw [lookD_none (by have := hI1.length; rw [List.length_map] at this; omega) e6]
      rw [e6] at q
      exact q vz F2 H2 (Up.refl u2.fh) hz.is
    | some d =>
      obtain ⟨v, hv, hi⟩ := lookD_val hI1 e6
      rw [hv]
      rw [e6] at q
      exact q v F2 H2 (Up.refl u2.fh) hi
abbrev iAdd : Int → Int → Int := fun i j => i + j
abbrev iSub : Int → Int → Int := fun i j => i - j
def sAug (f : Int → Int → Int) (i : Nat) (fe : EF) : So := fun δ => match δ[i]? with
  | some (some (.int m)) => bndS (fe δ) δ fun d => match d with
    | .int k => some (.nx (δ.set i (some (.int (f m k)))))
    | _ => none
  | _ => none
theorem st_aug {i : Nat} {p' : Pos} {op : Operator} {f : Int → Int → Int} (n : Lo X.N X.env.scope i x) (hk : c.Ks[i]? = some (.ve .fz)) (hop : PIp X op (ipI f)) (he : PE X e (tV c ta fa)) (ca : coe ta .bw = true) (hf : X.fn x = true ∨ X.env.scope.names.lookup x = some .local) :
    PS X (.AugAssign (.Name x p') op e pos) (tS c rt (sAug f i fa)) := by
  refine PS.imp (ps_aug n.nd n.n n.l he hop hf) fun D σ H h => ?_
  obtain ⟨F, δ, E, h⟩ := h
  unfold sAug at h
  split at h
  · rename_i m e1
    obtain ⟨v, eσ, A, hv⟩ := EnvOk.var E hk e1
    have hv : v = .int m := by
      have q := Own.is (show Own c.K F H .fz (.int m) v A from hv)
      simpa only [Is] using q
    subst hv
    refine ⟨_, eσ, ?_⟩
    refine tV.goS ca E h fun d y F1 H1 u1 E1 ⟨B, hy⟩ h1 => ?_
    cases d with
    | int k => exact ⟨m, k, rfl, hy.int, Gs.nx h1 (EnvOk.setVe E1 hk (by simp only [Is]))⟩
    | _ => exact h1.elim
  · exact h.elim
end Ev

set_option maxHeartbeats 4000000
/-! Ev, part Xe: for .. in enumerate(a tuple). -/
namespace PySem
namespace ENT
open Sem (wp)
theorem new1 {v : Value} {o : Obj} {H : Heap → Prop} (B : Begins v o H) :
    Meets (Builtin.«enumerate.__new__» ⟨[.type "enumerate", v], []⟩) (fun _ R s => H s.heap ∧ R (.ok (.ret (.ref (s.heap.push o).objs.size))) { s with heap := (s.heap.push o).push { cls := .type "enumerate", data := .fields #[.none, .bool false, .ref s.heap.objs.size, rawInt 0, .none, .none] } }) :=
  .of_wp fun prog w A R s h => by
    obtain ⟨hp, g, d, tk, os⟩ := s; obtain ⟨h1, h⟩ := h; have hsub := sub_enumerate
    have it1 : ∀ {A' : Around} {E : Value → Shared → Prop} {Q : Value → Shared → Prop}, Q (.ref hp.objs.size) ⟨hp.push o, g, d, tk, os⟩ → wpAny (model prog w) A' (pyIter v) Q E ⟨hp, g, d, tk, os⟩ := fun q => B.iter prog w _ _ ⟨hp, g, d, tk, os⟩ _ h1 q
    wp_walk using it1
    refine wpAny_stack_any fun st => wpAny_pure ?_
    split
    · rename_i c _ _ _ _ _
      cases (c == Value.type "enumerate") <;> (wp_walk using it1; exact ⟨_, rfl, h⟩)
    · wp_walk using it1
      exact ⟨_, rfl, h⟩
theorem call1 {prog : Program} {w : World} {A : Around} {E : Value → Shared → Prop} {s : Shared} {v : Value} {o : Obj} {H : Heap → Prop} {Q : Value → Shared → Prop} (B : Begins v o H) (h1 : H s.heap)
    (h : ∀ h', IsEnum h' (s.heap.objs.size + 1) s.heap.objs.size 0 .none → h'.get? s.heap.objs.size = some o → h'.objs.size = s.heap.objs.size + 2 → (∀ b o, s.heap.get? b = some o → h'.get? b = some o) → Q (.ref (s.heap.objs.size + 1)) { s with heap := h' }) :
    wpAny (model prog w) A (call (.type "enumerate") [v]) Q E s := by
  refine callType_new F.called_enumerate (by decide) (F.typeCall_enumerate_1 _) (F.newCall_enumerate_1 _) (fun obj => F.args_object_init_2 obj _) F.entry_enumerate_new (new1 B) ⟨h1, ?_⟩
  have hz : (s.heap.push o).objs.size = s.heap.objs.size + 1 := Heap.size_push ..
  show _ ∧ _
  rw [hz]
  have he : IsEnum ((s.heap.push o).push { cls := .type "enumerate", data := .fields #[.none, .bool false, .ref s.heap.objs.size, rawInt 0, .none, .none] }) (s.heap.objs.size + 1) s.heap.objs.size 0 .none := by
    have z := Heap.get?_push_size (s.heap.push o) (o := { cls := .type "enumerate", data := .fields #[.none, .bool false, .ref s.heap.objs.size, rawInt 0, .none, .none] }) rfl
    rw [hz] at z; exact z
  exact ⟨⟨_, he, rfl⟩, h _ he (Heap.get?_push_of_some _ (Heap.get?_push_size _ B.free)) (by rw [Heap.size_push, hz]) fun b o x => Heap.get?_push_of_some _ (Heap.get?_push_of_some _ x)⟩
end ENT
end PySem
namespace Ev
open PySem PySem.Spec PySem.Calls PyProof.Rows L2
/-- the tuple at a at each turn, each item in a new pair -/
def IteT (K : PySem.W.Frag) (a : Addr) : It :=
  ⟨fun i H => ∃ (xs : List V) (x : V), SqT K H a xs ∧ xs[i]? = some x, fun i H v H' => ∃ T x, v = .ref T ∧ H T = none ∧ H' = upd H T (.tup [.int (i : Nat), x]) ∧ ∀ xs, SqT K H a xs → xs[i]? = some x, fun i H => ∃ xs : List V, SqT K H a xs ∧ xs.length ≤ i⟩
theorem turn_enumT {P : Program} {w : World} {K : PySem.W.Frag} {elts : List Expr} {kk : Nat} {tpos : Pos} (a e it : Addr) (hai : a ≠ it) (hae : a ≠ e) :
    Turn P w K (.Tuple elts kk tpos) (IteT K a) [e, it] e (fun i h => (∃ old, IsEnum h e it ((i : Nat) : Int) old) ∧ h.IsTupleIter it a i ∧ e ≠ it) where
  mem := by simp
  obj := fun i h st b hb => by
    obtain ⟨⟨old, he⟩, ⟨o, ho, hc, hd⟩, _⟩ := st
    rcases (by simpa using hb : b = e ∨ b = it) with z | z
    · rw [z]; exact ⟨_, he, fun v q => nomatch q⟩
    · rw [z]; exact ⟨o, ho, fun v q => by rw [hd] at q; cases q⟩
  keep := fun i h h' st k => let ⟨⟨old, he⟩, hi, hne⟩ := st; ⟨⟨old, k e (by simp) _ he⟩, hi.at fun o q => k it (by simp) o q, hne⟩
  item := by
    intro X hP hw hK hc i pins s σ H E I hf st hg
    subst hP hw hK
    obtain ⟨⟨old, he⟩, hit, hne⟩ := st
    obtain ⟨xs, x, hq, hx⟩ := hg
    obtain ⟨its, rv, p, hz⟩ := I.tuple hq
    obtain ⟨u, hu, ru⟩ := rv.get hx
    have hel : e < s.heap.objs.size := Heap.lt_size he
    have hil : it < s.heap.objs.size := by obtain ⟨_, q, _⟩ := hit; exact Heap.lt_size q
    have hlt : i < its.toArray.size := by simpa using (List.getElem?_eq_some_iff.mp hu).1
    refine wpAny_pyNext_enum_itemD (Draws.tuple (A := X.A.in1) (I.ok.hd hc) it a hai its.toArray) he ⟨hit, p⟩ hlt hne (by simp only [List.mem_cons, List.not_mem_nil, or_false, not_or]; exact ⟨hne, fun z => hae z.symm⟩) fun y h' tk hy ho hit' hT hsz hk => ?_
    have hyu : y = u := by
      have z : its.toArray[i]? = some u := by simpa using hu
      rw [hy] at z; exact Option.some.inj z
    subst hyu
    refine ⟨_, rfl, wpAny_letOwnedTupleGo_enum (s := { s with heap := h', toks := tk + 1 }) ho fun h'' he' sb => ?_⟩
    have hT2 : h''.get? s.heap.objs.size = some { cls := .type "tuple", data := .seq #[.int i tk, y] } := (sb.2 _ (Nat.ne_of_gt hel)).trans hT
    have new : ObjOk X.prog X.w (upd H s.heap.objs.size (.tup [.int (i : Nat), x])) h'' s.heap.objs.size (.tup [.int (i : Nat), x]) :=
      ⟨by show 2 ≤ sizeLine; decide, [.int i tk, y], .cons ⟨_, rfl⟩ (.cons ru .nil), ⟨_, hT2, rfl, _, rfl⟩⟩
    have I1 : Inv X pins σ (upd H s.heap.objs.size (.tup [.int (i : Nat), x])) { s with heap := h'', toks := tk + 1 } :=
      I.turnedNew (ch := [e, it]) (fun b ob hb q => (sb.2 b (fun z => hb (by simp [z]))).trans (hk b ob (fun z => hb (by simp [z])) (fun z => hb (by simp [z])) q)) hf (Nat.le_refl _) new
    refine ⟨.ref s.heap.objs.size, _, I1, rfl, ⟨_, x, rfl, I.hok.fresh (Nat.le_refl _), rfl, fun ys hy => by rw [I.tuple_inj hy hq]; exact hx⟩, ⟨⟨y, ?_⟩, hit'.1.at fun o q => (sb.2 it (Ne.symm hne)).trans q, hne⟩, fun b hb => ?_⟩
    · rw [show ((i + 1 : Nat) : Int) = (i : Int) + 1 by omega]; exact he'
    · have hb' : b < s.heap.objs.size := by
        rcases (by simpa using hb : b = e ∨ b = it) with z | z
        · rw [z]; exact hel
        · rw [z]; exact hil
      rw [upd_ne (Nat.ne_of_lt hb')]
      exact (hf b hb).1
  done := by
    intro X hP hw hK hc i pins s σ H E I hf st hg
    subst hP hw hK
    obtain ⟨⟨old, he⟩, hit, hne⟩ := st
    obtain ⟨xs, hq, hx⟩ := hg
    obtain ⟨its, rv, p, hz⟩ := I.tuple hq
    obtain ⟨f0, f1, f2, f3, f4, f5⟩ := hf it (by simp)
    have hl := rv.length
    have hT : s.TypeIs (.ref e) "enumerate" := ⟨_, he, rfl⟩
    unfold pyNext
    refine wpAny_bind (wpAny_attempt (wpAny_callSpecial?_slot (name := Str.ofString "__next__") hT F.slot_enumerate_next (wpAny_call_entry F.slot_enumerate_next hT F.entry_enumerate_next ?_ (F.args_enumerate_next_1 _))))
    show wpAny _ _ (field (.ref e) 2 >>= _) _ _ _
    refine wpAny_bind (wpAny_field he rfl (x := .ref it) rfl ?_)
    refine wpAny_bind (wpAny_nextOf_tuple_end (A := X.A.in1) (I.ok.hd hc) hit p (by simp; omega) fun h' x he' hx' => ?_)
    obtain ⟨o, ho, hcc⟩ := hx'
    refine wpAny_bind (wpAny_isInstance (T := "StopIteration") (b := true) ⟨o, ho, hcc⟩ isSubtype_stop ?_)
    exact wpAny_pure ⟨rfl, I.turned (t' := s.toks) (fun b o hb q => he' b o hb q) f0 f1 f3 f4 f5⟩
  self := fun A i s Q E st h => let ⟨⟨_, he⟩, _⟩ := st; wpAny_pyIter_enum he h
def iEnumT (K : PySem.W.Frag) (ta : TA) : TI := fun σ H R => ta σ H fun vs H1 => ∃ a xs, vs = [.ref a] ∧ SqT K H1 a xs ∧ R (IteT K a) H1
theorem pi_enumT {X : Cx} {e : Expr} {ta : TA} {p pos tpos : Pos} {elts : List Expr} {kk : Nat} (hg : Gl X "enumerate") (hm : X.mg "enumerate" = none) (ha : PA X [e] ta) (hs : starEach [e] X.env = [(false, eval e X.env)] := by rfl) :
    PI X (.Tuple elts kk tpos) (.Call (.Name "enumerate" p) [e] [] pos) (iEnumT X.K ta) := by
  refine ⟨fun pins s σ H R I h => ?_⟩
  refine Call_ (ld_blt I hg hm boot_enumerate (PyProof.Rows.callWith_type1 (thn (ha.run pos pins s σ H _ I h) fun us s1 ⟨vs, H1, I1, r1, q1⟩ => ?_) hs rfl))
  obtain ⟨a, xs, rfl, hq, q⟩ := q1
  cases r1 with
  | cons r rr =>
    cases rr
    cases r
    obtain ⟨its, rv, p', hz⟩ := I1.tuple hq
    have hal : a < s1.heap.objs.size := by obtain ⟨_, z, _⟩ := p'; exact Heap.lt_size z
    refine ENT.call1 (begins_tuple a its.toArray) p' fun h' he hit hsz hk => wpAny_pyIter_enum he ?_
    have I2 : Inv X pins σ H1 { s1 with heap := h' } := I1.kept (t' := s1.toks) hk
    refine ⟨s1.heap.objs.size + 1, [s1.heap.objs.size + 1, s1.heap.objs.size], _, _, H1, rfl, I2, turn_enumT a (s1.heap.objs.size + 1) s1.heap.objs.size (Nat.ne_of_lt hal) (Nat.ne_of_lt (Nat.lt_succ_of_lt hal)), ⟨⟨.none, he⟩, ⟨_, hit, rfl, rfl⟩, Nat.succ_ne_self _⟩, fun b hb => ?_, q⟩
    have hle : s1.heap.objs.size ≤ b := by
      rcases (by simpa using hb : b = s1.heap.objs.size + 1 ∨ b = s1.heap.objs.size) with z | z
      · rw [z]; exact Nat.le_succ _
      · rw [z]; exact Nat.le_refl _
    exact I1.fpOk hle (I1.hok.fresh hle)
variable {X : Cx} {c : Cp} {F G H F' G' H' : Hp} {σ : L2.St} {δ : Env} {a b e tg : Expr} {es : List Expr} {pos p : Pos} {x : Str} {ta tb tc ty rt : Ty} {oa ob oc o : OT} {os : List OT} {fa fb fc : Env → Option R} {fs : Env → Option RL} {st : Stmt} {ss : List Stmt} {A A' : List Addr}
def numb : Nat → List D → List D
  | _, [] => []
  | k, d :: ds => .tup [.int (k : Int), d] :: numb (k + 1) ds
theorem numb_get : ∀ {ds : List D} {k i : Nat} {d : D}, (numb k ds)[i]? = some d → ∃ x, ds[i]? = some x ∧ d = .tup [.int ((k + i : Nat) : Int), x]
  | [], k, i, d, h => by simp [numb] at h
  | y :: ds, k, 0, d, h => by simp [numb] at h; exact ⟨y, rfl, h.symm⟩
  | y :: ds, k, i + 1, d, h => by
    obtain ⟨x, h1, h2⟩ := numb_get (ds := ds) (k := k + 1) (i := i) (by simpa [numb] using h)
    exact ⟨x, by simpa using h1, by rw [h2, show k + 1 + i = k + (i + 1) by omega]⟩
theorem numb_len : ∀ (ds : List D) (k : Nat), (numb k ds).length = ds.length
  | [], _ => rfl
  | _ :: ds, k => by simp [numb, numb_len ds (k + 1)]
def enumD : List D → Option (List D)
  | [.tup ds] => some (numb 0 ds)
  | _ => none
def iEnumF (fs : EL) : EL := fun δ => match fs δ with
  | some (.ok l) => okL (enumD l)
  | r => r
theorem i_enumT {elts : List Expr} {kk : Nat} {tpos pz : Pos} (hK : X.K = c.K) (hg : Gl X "enumerate") (hm : X.mg "enumerate" = none) (ha : PA X [a] (tL c [.fz] fs)) (hs : starEach [a] X.env = [(false, eval a X.env)]) :
    PI X (.Tuple elts kk tpos) (.Call (.Name "enumerate" pz) [a] [] pos) (tI c .fz (iEnumF fs)) := by
  refine PI.imp (pi_enumT hg hm ha hs) fun σ H R h => ?_
  obtain ⟨F, δ, E, h⟩ := h
  change GI c .fz F H σ R (match fs δ with
      | some (.ok l) => okL (enumD l)
      | r => r) at h
  refine ⟨F, δ, E, ?_⟩
  cases e : fs δ with
  | none => rw [e] at h; exact h
  | some r =>
    rw [e] at h
    cases r with
    | ex x => exact h
    | ok l =>
      intro vs F1 H1 u w
      change GI c .fz F H σ R (okL (enumD l)) at h
      obtain ⟨d1, v1, A, rfl, rfl, o1⟩ := view1 w
      cases d1 with
      | tup ds =>
        have i1 := o1.is
        simp only [Is] at i1
        obtain ⟨p, vs, rfl, hp, hi⟩ := i1
        have sq : ∀ F2 H2, Same F1 F2 → Same F2 H2 → SqT X.K H2 p vs := fun F2 H2 s1 s2 => SqT.of (s2 _ _ (s1 _ _ hp))
        refine ⟨p, vs, rfl, sq F1 H1 (Same.refl _) u.fh, h _ F1 H1 u fun F2 H2 s1 s2 _ i => ⟨fun d hd => ?_, fun hl => ?_⟩⟩
        · obtain ⟨x, hx, rfl⟩ := numb_get hd
          obtain ⟨vx, e1, ix⟩ := hi.get hx
          have q3 := sq F2 H2 s1 s2
          refine ⟨⟨vs, vx, q3, e1⟩, fun x0 H' y0 => ?_⟩
          obtain ⟨T, x1, rfl, hT, rfl, k1⟩ := y0
          have := k1 vs q3
          rw [e1] at this; cases this
          refine ⟨upd F2 T (.tup [.int (i : Nat), vx]), Up.newF s2 hT, ?_⟩
          have sF : Same F1 (upd F2 T (.tup [.int (i : Nat), vx])) := s1.trans (Up.newF (o := .tup [.int (i : Nat), vx]) s2 hT).ff
          simp only [Is]
          refine ⟨T, _, rfl, upd_same, ?_⟩
          simp only [IsL, Is, Nat.zero_add]
          exact ⟨_, _, rfl, rfl, vx, [], rfl, ix.mono sF, rfl⟩
        · exact ⟨vs, sq F2 H2 s1 s2, by rw [hi.length]; rw [numb_len] at hl; exact hl⟩
      | _ => exact h.elim
end Ev

set_option maxHeartbeats 4000000
/-! Ev, part Xm: try with several clauses `except C as n`. -/
namespace Ev
open PySem PySem.Spec PySem.Calls PyProof.Rows L2
abbrev Cla := Value × (Addr → Value → Option Addr → TS)
/-- the ends of a suite that holds the exception in slot i -/
def endN (i : Nat) (D : Ends) : Ends := { nx := fun σ H => D.nx (σ.set i none) H, rt := D.rt, bk := fun σ H => D.bk (σ.set i none) H, ct := fun σ H => D.ct (σ.set i none) H }
def wN (K : PySem.W.Frag) (i : Nat) (Wout : WX) (D : Ends) : List Cla → WX
  | [] => Wout
  | (cv, ts) :: r => fun cls d σ H => ∃ b, PySem.W.exmOne K cls cv = some b ∧ (b = true → ∀ a, H a = none → ts a cls d (endN i D) (σ.set i (some (.ref a))) H) ∧ (b = false → wN K i Wout D r cls d σ H)
inductive HdsN (X : Cx) (i : Nat) (n : Str) : List ExceptHandler → List Cla → Prop
  | nil : HdsN X i n [] []
  | cons {xh : Str} {cv : Value} {ts : Addr → Value → Option Addr → TS} {b₀ : Stmt} {suite : List Stmt} {np pos' : Pos} {hds : List ExceptHandler} {l : List Cla} (hc : Names X xh cv)
      (hsu : ∀ (a : Addr) (oe : Obj) (cls : Value) (d : Option Addr) (pn : List (Addr × Obj)), Zc cls d oe → (∃ vs, oe.data = .fields vs) → PSs (X.suite a ((a, oe) :: pn)) (b₀ :: suite) (ts a cls d)) (r : HdsN X i n hds l) :
      HdsN X i n (.ExceptHandler (some (.Name xh np)) (some n) (b₀ :: suite) pos' :: hds) ((cv, ts) :: l)
theorem try_n {X : Cx} {i : Nat} {n : Str} {body : List Stmt} {h₀ : ExceptHandler} {hds : List ExceptHandler} {l : List Cla} {pos : Pos} {tb : WX → TS} {Wout : WX} (hs : X.stack = X.env :: X.outer) (hf : X.env.frame = some X.env.locals) (hN : X.N.Nodup) (hi : X.N[i]? = some n) (hln : X.env.kindOf n = some .local) (tk : Takes X Wout)
    (hb : ∀ (W : WX) (pn : List (Addr × Obj)) (xe : Value → Shared → Prop), Takes (X.tr pn xe) W → PassesOwn (model X.prog X.w) X.A X.env xe → PSs (X.tr pn xe) body (tb W)) (hh : HdsN X i n (h₀ :: hds) l) :
    PS X (.Try body (h₀ :: hds) [] [] pos) (fun D σ H => tb (wN X.K i Wout D l) D σ H) := ⟨fun pins s σ H D I h => by
  have ok := I.ok; have hfr : X.A.frames = some (X.env :: X.outer) := by rw [ok.frames, hs]
  refine wpAny_Try_except (wpAny_mono ((hb (wN X.K i Wout D l) (X.pn ++ pins) (fun e s₁ => wpAny (model X.prog X.w) X.A (noteFrame e X.env) (fun _ s₂ => wpAny (model X.prog X.w) X.A (setFlight e none) (fun _ s₃ => wpAny (model X.prog X.w) X.A (handleBy e X.env (h₀ :: hds)) (SP X pins D) X.xe s₃) X.xe s₂) X.xe s₁) (fun u s' xx => ?_) PassesOwn.looking).run [] s σ H D (I.toTry _) h) (fun f s1 hsp => ?_) fun e s1 he => he)
  · obtain ⟨a, B, sI, pins', σ', H', cls, d, rfl, J0, nb, up, sky, na, os, ag, wish⟩ := xx
    have J : Inv X pins σ' H' sI := J0.ofTry ok
    change wpAny (model X.prog X.w) X.A (noteFrame (.ref a) X.env) _ _ _
    refine Sky.land Zc.steady hfr hf (by rw [← hs]; exact sky) fun h3 fl3 up3 => ?_
    have J3 : Inv X pins σ' H' { s' with heap := h3 } := J.landed nb fl3.1 (up.trans up3) os ag; obtain ⟨oe3, vs3, he3, hz3, hd3⟩ := fl3.there
    have nfr : a ∉ frs (X.env :: X.outer) := fun hm => by
      obtain ⟨_, o', e', hnf⟩ := fl3.2.2.1.mem hm
      rw [he3] at e'; cases e'; exact hnf _ hd3
    have nL : a ≠ X.env.locals := fun z => nfr (List.mem_filterMap.mpr ⟨X.env, List.mem_cons_self, by rw [hf, z]⟩)
    have nF : a ∉ X.fs := fun hm => by obtain ⟨e, he, q⟩ := List.mem_filterMap.mp hm; exact nfr (List.mem_filterMap.mpr ⟨e, List.mem_cons_of_mem _ he, q⟩)
    have S3 := J3.suite he3 hd3 na nL nF
    have walk : ∀ {hs2 : List ExceptHandler} {l2 : List Cla}, HdsN X i n hs2 l2 → wN X.K i Wout D l2 cls d σ' H' → wpAny (model X.prog X.w) X.A (handleBy (.ref a) X.env hs2) (SP X pins D) X.xe { s' with heap := h3 } := fun {hs2 l2} hk => by
      induction hk with
      | nil =>
        intro w; refine wpAny_handleBy_nil ?_
        obtain ⟨_, _, _, oe, vs, T, oT, ts', he, hz, hd, h1, hr⟩ := id fl3
        unfold PySem.passOn; refine wpAny_bind (wpAny_field he hd h1 ?_); rw [if_neg (show ¬ ((Value.ref T == Value.none) = true) from by simp)]
        have out : wpAny (model X.prog X.w) X.A (setFlight (.ref a) X.env.frame) (fun _ s4 => wpAny (model X.prog X.w) X.A (throw (.ref a) : Sem Flow) (SP X pins D) X.xe s4) X.xe { s' with heap := h3 } := by
          rw [hf]; exact HandSPX.setFlight_upZ fl3 fun h4 hh4 up4 => wpAny_throw (tk _ _ ⟨a, B, sI, pins, σ', H', cls, d, rfl, J, nb, (up.trans up3).trans up4, .inr (.inr (by rw [hs]; exact hh4)), na, os, ag, w⟩)
        first | exact wpAny_bind (wpAny_pure (wpAny_bind out)) | exact wpAny_bind out
      | @cons xh cv ts b₀ suite np pos' hds2 l2 hc hsu r ih =>
        intro w; obtain ⟨b, hb1, yes, no⟩ := w
        refine wpAny_handleBy_cons (codeAny_handlers_test ?_) (by intro q; cases q)
        have T0 : PySem.W.Looks (model X.prog X.w) h3 (typeOf (.ref a)) cls := fun A Q E s k q => wpAny_typeOf_ref (k _ _ he3) (by rw [hz3.1]; exact q)
        have M0 := PySem.W.exm_one (M := model X.prog X.w) (J3.kIn) T0 hb1
        have ask : ∀ {Q : Value → Shared → Prop} {E : Value → Shared → Prop}, Q cv { s' with heap := h3 } → wpAny (model X.prog X.w) (X.A.mark (some (.ref a))) (eval (.Name xh np) X.env) Q E { s' with heap := h3 } := fun {Q E} q => by
          obtain ⟨hg, hdb, hm | ⟨hm, hv, hnn⟩⟩ := hc
          · exact ld_glob (X := X.suite a ((a, oe3) :: (X.pn ++ pins))) S3 hg hm q hdb
          · exact ld_blt (X := X.suite a ((a, oe3) :: (X.pn ++ pins))) S3 hg hm hv q hnn hdb
        refine ask (M0.here ?_)
        cases b with
        | false => exact ih (no rfl)
        | true =>
          refine codeAny_handlers_suite_as (HandSPX.lands_againZ fl3 fun h4 fl4 up4 => ?_)
          have J4 : Inv X pins σ' H' { s' with heap := h4 } := J.landed nb fl4.1 ((up.trans up3).trans up4) os ag; obtain ⟨oe4, vs4, he4, hz4, hd4⟩ := fl4.there
          refine store_ok (X := X.suite a ((a, oe4) :: (X.pn ++ pins))) (v := .ref a) (J4.suite he4 hd4 na nL nF) hN hi (.inl hln) rfl (fun s5 S5 => ?_) (.inr hln)
          refine wpAny_mono ((hsu a oe4 cls d (X.pn ++ pins) hz4 ⟨_, hd4⟩).run [] s5 _ H' _ S5 (yes rfl a na)) (fun f s6 hsp => ?_) fun _ _ z => False.elim z
          have fin : ∀ {σ6 : L2.St} {H6 : Hp} {Q : Shared → Prop}, Inv (X.suite a ((a, oe4) :: (X.pn ++ pins))) [] σ6 H6 s6 → (∀ s7, Inv X pins (σ6.set i none) H6 s7 → Q s7) → wpAny (model X.prog X.w) X.A (do bindName X.env n .none; unbindBehindTheSuite X.env n pos') (fun _ s7 => Q s7) X.xe s6 := fun {σ6 H6 Q} S6 hq => gone_ok (S6.unsuite ok) hN hi hln hq
          cases f with
          | ret u => obtain ⟨v6, σ6, H6, S6, r6, q6⟩ := hsp; exact fin S6 fun s7 J7 => ⟨_, _, _, J7, r6, q6⟩
          | next => obtain ⟨σ6, H6, S6, q6⟩ := hsp; exact fin S6 fun s7 J7 => ⟨_, _, J7, q6⟩
          | brk => obtain ⟨σ6, H6, S6, q6⟩ := hsp; exact fin S6 fun s7 J7 => ⟨_, _, J7, q6⟩
          | cont => obtain ⟨σ6, H6, S6, q6⟩ := hsp; exact fin S6 fun s7 J7 => ⟨_, _, J7, q6⟩
    exact walk hh wish
  · cases f with
    | ret u => obtain ⟨v, σ', H', J', r, q⟩ := hsp; exact ⟨v, σ', H', J'.ofTry ok, r, q⟩
    | next => obtain ⟨σ', H', J', q⟩ := hsp; exact wpAny_execs_nil ⟨σ', H', J'.ofTry ok, q⟩
    | brk => obtain ⟨σ', H', J', q⟩ := hsp; exact ⟨σ', H', J'.ofTry ok, q⟩
    | cont => obtain ⟨σ', H', J', q⟩ := hsp; exact ⟨σ', H', J'.ofTry ok, q⟩⟩
variable {X : Cx} {c : Cp} {F G H F' G' H' : Hp} {σ : L2.St} {δ : Env} {a b e tg : Expr} {es : List Expr} {pos p : Pos} {x : Str} {ta tb tc ty rt : Ty} {oa ob oc o : OT} {os : List OT} {fa fb fc : Env → Option R} {fs : Env → Option RL} {st : Stmt} {ss : List Stmt} {A A' : List Addr}
/-- clauses by data: who is caught, what is done -/
abbrev Cls2 := List (Nat × Bool) × (Xd → So)
def pickC (i : Nat) (x : Xd) (δ : Env) : List Cls2 → Option Out
  | [] => some (.ex x δ)
  | (tb, h) :: r => match tb.lookup x.c with
    | some true => hndO i (h x (δ.set i (some .xv)))
    | some false => pickC i x δ r
    | none => none
def sTryN (g : So) (i : Nat) (cs : List Cls2) : So := fun δ => match g δ with
  | some (.ex x δ1) => pickC i x δ1 cs
  | r => r
/-- the suites' promises -/
def tsN (c : Cp) (rt : Ty) (i : Nat) (tb : List (Nat × Bool)) (h : Xd → So) : Addr → Value → Option Addr → TS := fun a cls d D σ H => ∃ x F0, cls = .ref (He.ga c.K (excT x.c).name) ∧ (x.c, true) ∈ tb ∧ (∀ H1, XRep c.K F0 H1 x (.ref (He.ga c.K (excT x.c).name)) d) ∧ tS (c.hc i a F0) rt (h x) D σ H
inductive HdsD (X : Cx) (c : Cp) (rt : Ty) (i : Nat) (n : Str) : List ExceptHandler → List Cla → List Cls2 → Prop
  | nil : HdsD X c rt i n [] [] []
  | cons {xh : Str} {cv : Value} {b₀ : Stmt} {suite : List Stmt} {np pos' : Pos} {hds : List ExceptHandler} {l : List Cla} {l2 : List Cls2} {tb : List (Nat × Bool)} {h : Xd → So} (hc : Names X xh cv) (htb : ∀ q ∈ tb, PySem.W.exmOne c.K (.ref (He.ga c.K (excT q.1).name)) cv = some q.2)
      (hsu : ∀ (x : Xd) (a : Addr) (oe : Obj) (d : Option Addr) (pn : List (Addr × Obj)) (F0 : Hp), (x.c, true) ∈ tb → Zc (.ref (He.ga c.K (excT x.c).name)) d oe → (∃ vs, oe.data = .fields vs) → (∀ H1, XRep c.K F0 H1 x (.ref (He.ga c.K (excT x.c).name)) d) → PSs (X.suite a ((a, oe) :: pn)) (b₀ :: suite) (tS (c.hc i a F0) rt (h x)))
      (r : HdsD X c rt i n hds l l2) : HdsD X c rt i n (.ExceptHandler (some (.Name xh np)) (some n) (b₀ :: suite) pos' :: hds) ((cv, tsN c rt i tb h) :: l) ((tb, h) :: l2)
theorem HdsD.toN {i : Nat} {n : Str} : ∀ {hds : List ExceptHandler} {l : List Cla} {l2 : List Cls2}, HdsD X c rt i n hds l l2 → HdsN X i n hds l
  | _, _, _, .nil => .nil
  | _, _, _, .cons hc htb hsu r => .cons hc (fun a oe cls d pn hz hd => ⟨fun pins s σ H D I q => by
    obtain ⟨x, F0, rfl, hm, xr, q⟩ := q
    exact (hsu x a oe d pn F0 hm hz hd xr).run pins s σ H D I q⟩) r.toN
theorem pick_ok {i : Nat} {n : Str} {D : Ends} {cls : V} {u : Value} {x : Xd} {dx : Option Addr} {σ1 : L2.St} {F1 H1 : Hp} {δ1 : Env} (hK : X.K = c.K) (hi : i < c.Ks.length) (rv : RelV cls u) (sf : Same F F1) (E1 : c.E F1 H1 σ1 δ1) (xr : XRep c.K F1 H1 x cls dx) :
    ∀ {hds : List ExceptHandler} {l : List Cla} {l2 : List Cls2}, HdsD X c rt i n hds l l2 → Gs c rt F D (pickC i x δ1 l2) → wN X.K i c.W D l u dx σ1 H1
  | _, _, _, .nil, q => q cls u dx σ1 F1 H1 rv sf E1 xr
  | _, _, _, .cons (tb := tb) (h := h) hc htb hsu r, q => by
    obtain rfl := xr.1
    obtain rfl : u = Value.ref (He.ga c.K (excT x.c).name) := rv
    change Gs c rt F D (match tb.lookup x.c with
      | some true => hndO i (h x (δ1.set i (some .xv)))
      | some false => pickC i x δ1 _
      | none => none) at q
    cases hl : tb.lookup x.c with
    | none => rw [hl] at q; exact q.elim
    | some b =>
      rw [hl] at q
      refine ⟨b, hK ▸ htb _ (look_tb hl), fun hb2 a na => ?_, fun hb2 => ?_⟩
      · subst hb2
        simp only at q
        refine ⟨x, F1, rfl, look_tb hl, fun H2 => xr, F1, δ1.set i (some .xv), EnvOk.hc_in E1 hi, ?_⟩
        cases hh : h x (δ1.set i (some .xv)) with
        | none => rw [hh] at q; exact q.elim
        | some r2 =>
          rw [hh] at q
          cases r2 with
          | nx δ2 => exact fun σ2 F2 H2 s2 E2 => q _ F2 H2 (sf.trans s2) (EnvOk.hc_out E1 E2 hi)
          | brk δ2 => exact fun σ2 F2 H2 s2 E2 => q _ F2 H2 (sf.trans s2) (EnvOk.hc_out E1 E2 hi)
          | ct δ2 => exact fun σ2 F2 H2 s2 E2 => q _ F2 H2 (sf.trans s2) (EnvOk.hc_out E1 E2 hi)
          | ret d δ2 => exact fun v σ2 F2 H2 E2 po => q v _ F2 H2 (EnvOk.hc_out E1 E2 hi) po
          | ex y δ2 => exact q.elim
      · subst hb2
        exact pick_ok (cls := .ref (He.ga c.K (excT x.c).name)) (u := Value.ref (He.ga c.K (excT x.c).name)) hK hi rfl sf E1 xr r q
def HdsE (X : Cx) (c : Cp) (rt : Ty) (i : Nat) (n : Str) (hds : List ExceptHandler) (l2 : List Cls2) : Prop := ∃ l, HdsD X c rt i n hds l l2
theorem st_tryN {i : Nat} {n : Str} {body : List Stmt} {h₀ : ExceptHandler} {hds : List ExceptHandler} {l2 : List Cls2} {g : So}
    (hs : X.stack = X.env :: X.outer) (hf : X.env.frame = some X.env.locals) (lo : Lo X.N X.env.scope i n) (hln : X.env.kindOf n = some .local) (tk : Takes X c.W) (hK : X.K = c.K) (hi : i < c.Ks.length)
    (hb : ∀ (W : WX) (pn : List (Addr × Obj)) (xe : Value → Shared → Prop), Takes (X.tr pn xe) W → PassesOwn (model X.prog X.w) X.A X.env xe → PSs (X.tr pn xe) body (tS { c with W := W } rt g)) (hh : HdsE X c rt i n (h₀ :: hds) l2) :
    PS X (.Try body (h₀ :: hds) [] [] pos) (tS c rt (sTryN g i l2)) := by
  obtain ⟨l, hh⟩ := hh
  refine PS.imp (try_n hs hf lo.nd lo.n hln tk hb hh.toN) fun D σ H q => ?_
  obtain ⟨F, δ, E, q⟩ := q
  refine ⟨F, δ, E, ?_⟩
  change Gs c rt F D (match g δ with
    | some (.ex x δ1) => pickC i x δ1 l2
    | r => r) at q
  cases hg : g δ with
  | none => rw [hg] at q; exact q
  | some r =>
    rw [hg] at q
    cases r with
    | nx δ1 => exact q
    | brk δ1 => exact q
    | ct δ1 => exact q
    | ret d δ1 => exact q
    | ex x δ1 => exact fun cls u dx σ1 F1 H1 rv sf E1 xr => pick_ok hK hi rv sf E1 xr hh q
theorem st_hnil {i : Nat} {n : Str} : HdsE X c rt i n [] [] := ⟨[], .nil⟩
theorem st_hcons {i : Nat} {n xh : Str} {cv : Value} {b₀ : Stmt} {suite : List Stmt} {np pos' : Pos} {hds : List ExceptHandler} {l2 : List Cls2} {tb : List (Nat × Bool)} {h : Xd → So} (hc : Names X xh cv) (htb : ∀ q ∈ tb, PySem.W.exmOne c.K (.ref (He.ga c.K (excT q.1).name)) cv = some q.2)
    (hsu : ∀ (x : Xd) (a : Addr) (oe : Obj) (d : Option Addr) (pn : List (Addr × Obj)) (F0 : Hp), (x.c, true) ∈ tb → Zc (.ref (He.ga c.K (excT x.c).name)) d oe → (∃ vs, oe.data = .fields vs) → (∀ H1, XRep c.K F0 H1 x (.ref (He.ga c.K (excT x.c).name)) d) → PSs (X.suite a ((a, oe) :: pn)) (b₀ :: suite) (tS (c.hc i a F0) rt (h x)))
    (r : HdsE X c rt i n hds l2) : HdsE X c rt i n (.ExceptHandler (some (.Name xh np)) (some n) (b₀ :: suite) pos' :: hds) ((tb, h) :: l2) := by
  obtain ⟨l, r⟩ := r
  exact ⟨_, .cons hc htb hsu r⟩
end Ev

set_option maxHeartbeats 4000000
/-! Ev, part Xs: sum(a list of ints), max(a, b), min(a, b). -/
namespace Ev
open PySem PySem.Spec PyProof.Rows L2
variable {X : Cx} {c : Cp} {K : PySem.W.Frag} {F G H F' G' H' : Hp}
def intsOf : List D → Option (List Int)
  | [] => some []
  | .int i :: l => (intsOf l).map (i :: ·)
  | _ :: _ => none
theorem intsOf_isL : ∀ {ds : List D} {vs : List V} {ns : List Int}, IsL K F ds vs → intsOf ds = some ns → vs = ns.map V.int
  | [], vs, ns, h, e => by
    simp only [IsL] at h
    cases e
    exact h
  | d :: ds, vs, ns, h, e => by
    simp only [IsL] at h
    obtain ⟨v, r, rfl, h1, h2⟩ := h
    cases d with
    | int i =>
      obtain ⟨ms, e1, rfl⟩ := Option.map_eq_some_iff.mp e
      rw [intsOf_isL h2 e1]
      simp only [Is] at h1
      rw [h1]; rfl
    | _ => cases e
def sumD : List D → Option D
  | [.lst ds] => (intsOf ds).map fun ns => .int ns.sum
  | _ => none
theorem b_sum (hc : X.calm = true) (hK : X.K = c.K) : CallS X c (.builtin "sum") [.bw] (.vw .fz) sumD := by
  refine ⟨_, cr_sum hc, fun F H vs ds d Q s w e q => ?_⟩
  obtain ⟨d0, v, A, rfl, rfl, hx⟩ := view1 w
  cases d0 with
  | lst ds =>
    obtain ⟨ns, e1, rfl⟩ := Option.map_eq_some_iff.mp e
    obtain ⟨p, vs, rfl, hp, hi⟩ := hx.lstF rfl s
    have e2 := intsOf_isL hi e1
    subst e2
    exact ⟨p, ns, rfl, SqL.of hp, q _ F H (Up.refl s) ⟨[], Own.of_is (by simp only [Is])⟩⟩
  | _ => cases e
theorem vw2 {K : PySem.W.Frag} {o o2 : OT} {ds : List D} {vs : List V} (h : ViewL K F H [o, o2] ds vs) : ∃ d v A d2 v2 A2, ds = [d, d2] ∧ vs = [v, v2] ∧ Own K F H o d v A ∧ Own K F H o2 d2 v2 A2 := by
  cases ds with
  | nil => simp [ViewL] at h
  | cons d r =>
    simp only [ViewL] at h
    obtain ⟨v, rv, rfl, ⟨A, h1⟩, h2⟩ := h
    obtain ⟨d2, v2, A2, rfl, rfl, h3⟩ := view1 h2
    exact ⟨d, v, A, d2, v2, A2, rfl, rfl, h1, h3⟩
def max2D : List D → Option D
  | [.int i, .int j] => some (.int (if j > i then j else i))
  | _ => none
theorem b_max2 (hc : X.calm = true) : CallS X c (.builtin "max") [.bw, .bw] (.vw .fz) max2D := by
  refine ⟨_, call_max2 hc, fun F H vs ds d Q s w e q => ?_⟩
  obtain ⟨d0, v, A, d2, v2, A2, rfl, rfl, hx, hy⟩ := vw2 w
  cases d0 with
  | int i =>
    cases d2 with
    | int j =>
      cases e
      exact ⟨i, j, by rw [hx.int, hy.int], q _ F H (Up.refl s) ⟨[], Own.of_is (by simp only [Is])⟩⟩
    | _ => cases e
  | _ => cases e
def min2D : List D → Option D
  | [.int i, .int j] => some (.int (if j < i then j else i))
  | _ => none
theorem b_min2 (hc : X.calm = true) : CallS X c (.builtin "min") [.bw, .bw] (.vw .fz) min2D := by
  refine ⟨_, call_min2 hc, fun F H vs ds d Q s w e q => ?_⟩
  obtain ⟨d0, v, A, d2, v2, A2, rfl, rfl, hx, hy⟩ := vw2 w
  cases d0 with
  | int i =>
    cases d2 with
    | int j =>
      cases e
      exact ⟨i, j, by rw [hx.int, hy.int], q _ F H (Up.refl s) ⟨[], Own.of_is (by simp only [Is])⟩⟩
    | _ => cases e
  | _ => cases e
/-! ### {"a": 1, ..}: constant words and numbers -/
def disT (c : Cp) (kvs : List (Str × Int)) : List (TE × TE) := kvs.map fun q => (tV c (.vw .fz) (fC (.str q.1)), tV c (.vw .fz) (fC (.int q.2)))
def disV (kvs : List (Str × Int)) : List (Key × V) := kvs.map fun q => (.inr q.1, .int q.2)
theorem dis_pairs {σ : L2.St} {δ : Env} : ∀ (kvs : List (Str × Int)) (F H : Hp) (Q : List (V × V) → Hp → Prop), c.E F H σ δ → (∀ F' H', Up F H F' H' → Q ((disV kvs).map fun kv => (kV kv.1, kv.2)) H') → tPairs (disT c kvs) σ H Q
  | [], F, H, Q, E, q => q F H (Up.refl E.fh)
  | (k, i) :: kvs, F, H, Q, E, q => by
    show tV c (.vw .fz) (fC (.str k)) σ H fun x H1 => tV c (.vw .fz) (fC (.int i)) σ H1 fun y H2 => tPairs (disT c kvs) σ H2 fun ps H3 => Q ((x, y) :: ps) H3
    refine ⟨F, δ, E, fun v F1 H1 u1 p1 => ?_⟩
    obtain ⟨A, hv⟩ := p1
    have ev := hv.is
    simp only [Is] at ev
    obtain ⟨rfl, _⟩ := ev
    refine ⟨F1, δ, EnvOk.up E u1, fun v2 F2 H2 u2 p2 => ?_⟩
    obtain ⟨A2, hv2⟩ := p2
    have ev2 := hv2.is
    simp only [Is] at ev2
    subst ev2
    exact dis_pairs kvs F2 H2 _ (EnvOk.up E (u1.trans u2)) fun F3 H3 u3 => q F3 H3 ((u1.trans u2).trans u3)
theorem putK_new (kvs : List (Key × V)) (k : Key) (v : V) (h : k ∉ kvs.map (·.1)) : putK kvs k v = kvs ++ [(k, v)] := by
  have h2 : ¬ (kvs.any fun kv => decide (kv.1 = k)) = true := fun e => by
    obtain ⟨q, hq, e⟩ := List.any_eq_true.mp e
    exact h (List.mem_map.mpr ⟨q, hq, of_decide_eq_true e⟩)
  unfold putK
  rw [if_neg h2]
theorem merge_new : ∀ (r a : List (Key × V)), (a ++ r).map (·.1) |>.Nodup → r.foldl (fun acc kv => putK acc kv.1 kv.2) a = a ++ r
  | [], a, _ => (List.append_nil a).symm
  | (k, v) :: r, a, nd => by
    have hk : k ∉ a.map (·.1) := fun hm => by
      rw [List.map_append] at nd
      exact (List.nodup_append.mp nd).2.2 k hm k (List.mem_cons_self ..) rfl
    rw [List.foldl_cons, putK_new a k v hk, merge_new r (a ++ [(k, v)]) (by rw [List.append_assoc]; exact nd), List.append_assoc]
    rfl
theorem s_disC {keys : List (Option Expr)} {values : List Expr} {pos : Pos} {kvs : List (Str × Int)} (h : PPs X pos keys values (disT c kvs)) (hall : (keys.all fun x => x.isSome) = true) (hl : keys.length = values.length) (h0 : keys ≠ []) (h15 : keys.length ≤ 15) (h16 : kvs.length ≤ 15) (nd : ((disV kvs).map (·.1)).Nodup) :
    PE X (.Dict keys values pos) (tV c (.fr .dic) (fC (.dic (kvs.map fun q => .inr q.1) (kvs.map fun q => .int q.2)))) := by
  refine PE.imp (pe_disp h hall hl h0 h15) fun σ H Q h => ?_
  obtain ⟨F, δ, E, h⟩ := h
  intro p hp
  have fp : F p = none := by
    cases q : F p with
    | none => rfl
    | some u => rw [E.fh _ _ q] at hp; cases hp
  refine dis_pairs kvs F _ _ (EnvOk.up E (Up.new E.fh hp)) fun F' H' u => ?_
  refine ⟨u.hh _ _ upd_same, disV kvs, rfl, by unfold disV; rw [List.length_map]; exact h16, ?_⟩
  rw [show mergeK [] (disV kvs) = disV kvs from merge_new (disV kvs) [] (by simpa using nd)]
  have fp' : F' p = none := u.fr p fp (by rw [upd_same]; simp)
  refine h _ F' _ ⟨u.ff, fun a o e => ?_, fun a e1 e2 => u.fr a e1 (by
      by_cases ap : a = p
      · subst ap; rw [upd_same]; simp
      · rw [upd_ne ap]; exact e2), fun a o e => ?_⟩ ⟨[p], ?_, by simp, fun a ha => ?_⟩
  · have ap : a ≠ p := fun z => by subst z; rw [hp] at e; cases e
    rw [upd_ne ap]
    exact u.hh _ _ (by rw [upd_ne ap]; exact e)
  · have ap : a ≠ p := fun z => by subst z; rw [fp'] at e; cases e
    rw [upd_ne ap]
    exact u.fh _ _ e
  · simp only [Own]
    refine ⟨p, disV kvs, rfl, upd_same, by unfold disV; rw [List.map_map]; rfl, ?_, rfl⟩
    have : ∀ l : List (Str × Int), IsL c.K F' (l.map fun q => D.int q.2) ((disV l).map (·.2)) := by
      intro l
      induction l with
      | nil => simp [IsL, disV]
      | cons q l ih =>
        show IsL c.K F' (D.int q.2 :: l.map fun q => D.int q.2) (V.int q.2 :: (disV l).map (·.2))
        simp only [IsL]
        exact ⟨_, _, rfl, by simp only [Is], ih⟩
    exact this kvs
  · have e : a = p := by simpa using ha
    subst e
    exact ⟨hp, fp'⟩
/-! ### x.upper() -/
def upD : D → Option D
  | .str z => if z.length ≤ 1000 ∧ PyData.strOk (Txt.upper z) = true then some (.str (Txt.upper z)) else none
  | _ => none
def fUp (fa : EF) : EF := fun δ => bnd (fa δ) fun d => okO (upD d)
theorem s_upper {a : Expr} {fa : EF} {ta : Ty} {apos cpos : Pos} (hK : X.K = c.K) (ha : PE X a (tV c ta fa)) (ca : coe ta .bw = true) (hbase : attributeBase a "upper" X.env (eval a X.env) = eval a X.env) (hline : (apos.endLine == cpos.line) = true) :
    PE X (.Call (.Attribute a "upper" apos) [] [] cpos) (tV c (.vw .fz) (fUp fa)) := by
  refine PE.imp (pe_bm0 PySem.F.plainAttrs_str PySem.F.slot_str_upper PySem.F.type_str_upper mt_upper ha hbase hline) fun σ H Q h => ?_
  obtain ⟨F, δ, E, h⟩ := h
  refine tV.goV ca E h fun d v F1 H1 u1 E1 ⟨A, hx⟩ h1 => ?_
  obtain ⟨r, er, q⟩ := Gv.okT h1
  cases d with
  | str z =>
    simp only [upD] at er
    by_cases g : z.length ≤ 1000 ∧ PyData.strOk (Txt.upper z) = true
    · rw [if_pos g] at er
      cases er
      refine ⟨tyV_of hK u1.fh hx rfl, z, hx.strV.1, rfl, by omega, q _ F1 H1 (Up.refl u1.fh) ⟨[], Own.of_is (Is.str g.2)⟩⟩
    · rw [if_neg g] at er; cases er
  | _ => cases er
/-! ### a, b = e1, e2: no tuple is made -/
def sPar (i j : Nat) (fs : EL) : So := fun δ => bndSL (fs δ) δ fun ds => match ds with
  | [d1, d2] => some (.nx ((δ.set i (some d1)).set j (some d2)))
  | _ => none
theorem st_par {i j : Nat} {x y : Str} {px py pt pt2 pos : Pos} {kt k2 : Nat} {a b : Expr} {fs : EL} {rt : Ty} (hc : X.calm = true) (ni : Lo X.N X.env.scope i x) (nj : Lo X.N X.env.scope j y) (hij : i ≠ j) (hki : c.Ks[i]? = some (.ve .fz)) (hkj : c.Ks[j]? = some (.ve .fz)) (hx : X.env.scope.names.lookup x = some .local) (hy : X.env.scope.names.lookup y = some .local)
    (ha : PA X [a, b] (tL c [.fz, .fz] fs)) (hw : swappedStores [.Tuple [.Name x px, .Name y py] kt pt] (.Tuple [a, b] k2 pt2) X.env = pure (some [x, y])) :
    PS X (.Assign [.Tuple [.Name x px, .Name y py] kt pt] (.Tuple [a, b] k2 pt2) pos) (tS c rt (sPar i j fs)) := by
  refine PS.imp (ps_par hc ni.nd ni.n nj.n hij hx hy ha hw) fun D σ H h => ?_
  obtain ⟨F, δ, E, h⟩ := h
  refine ⟨F, δ, E, ?_⟩
  unfold sPar at h
  cases e2 : fs δ with
  | none => rw [e2] at h; exact h.elim
  | some r =>
    rw [e2] at h
    cases r with
    | ex x0 => exact Gs.bad h E
    | ok ds =>
      intro ws F1 H1 u1 w
      have E1 := Cp.E.up E u1
      have h1 := Gs.up h u1.ff
      obtain ⟨d1, v1, A1, d2, v2, A2, rfl, rfl, o1, o2⟩ := vw2 w
      exact ⟨v1, v2, rfl, Gs.nx h1 (EnvOk.setVe (EnvOk.setVe E1 hki o1.is) hkj o2.is)⟩
end Ev

set_option maxHeartbeats 4000000
/-! Ev, part Xo: raise C("..") of an own class without __init__; a + b by the class's own __add__. -/
namespace Ev
open PySem PySem.Spec PySem.Calls PyProof.Rows L2
variable {X : Cx} {c : Cp} {F G H F' G' H' : Hp} {σ : L2.St} {δ : Env} {a b e tg : Expr} {es : List Expr} {pos p : Pos} {x : Str} {ta tb tc ty rt : Ty} {oa ob oc o : OT} {os : List OT} {fa fb fc : Env → Option R} {fs : Env → Option RL} {st : Stmt} {ss : List Stmt} {A A' : List Addr}
structure XoOk (K : PySem.W.Frag) (mg : Str → Option Value) (ci : Nat) : Prop where
  q : PySem.W.excIn K (He.ga K (excT ci).name) [.type "ValueError", .type "Exception", .type "BaseException", .type "object"] "ValueError.__new__" = true
  k : PySem.W.keepIn K (.ref (He.ga K (excT ci).name)) = true
  b : PySem.W.subIn K (.ref (He.ga K (excT ci).name)) (.type "BaseException") = some true
  t : PySem.W.typeIn K (.ref (He.ga K (excT ci).name)) = some (.type "type")
  g : mg (excT ci).name = some (.ref (He.ga K (excT ci).name))
theorem xoB_ok {K : PySem.W.Frag} {mg : Str → Option Value} {ci : Nat} {C : Str} (h : xoB K C = true) (hC : (excT ci).name = C) (hg : mg C = some (.ref (He.ga K C))) : XoOk K mg ci := by
  subst hC
  obtain ⟨h1, h⟩ := He.ba h
  obtain ⟨h2, h⟩ := He.ba h
  obtain ⟨h3, h4⟩ := He.ba h
  exact ⟨h1, h2, of_decide_eq_true h3, of_decide_eq_true h4, hg⟩
def sRaise0 (ci : Nat) : So := fun δ => some (.ex ⟨ci, []⟩ δ)
theorem gs_ex0 {ci : Nat} {D : Ends} (hK : X.K = c.K) (hf : (excT ci).fields = []) (E : c.E F H σ δ) (h : Gs c rt F D (some (.ex ⟨ci, []⟩ δ))) : c.W (Value.ref (He.ga X.K (excT ci).name)) none σ H := by
  refine h (.ref (He.ga X.K (excT ci).name)) (.ref (He.ga X.K (excT ci).name)) none σ F H rfl (fun _ _ q => q) E ⟨by rw [hK], ?_⟩
  show match (excT ci).fields with
    | [] => none = none
    | f :: fs => ∃ p vs, (none : Option Addr) = some p ∧ F p = some (.xd ((f :: fs).zip vs).reverse) ∧ vs.length = (f :: fs).length ∧ IsL c.K F [] vs
  rw [hf]
/-- raise C("..") -/
theorem st_raiseO {ci : Nat} {m : Str} {j : Nat} {p2 pos' : Pos} (M : XoOk X.K X.mg ci) (hK : X.K = c.K) (hcm : X.calm = true) (tk : Takes X c.W) (hg : Gl X (excT ci).name) (hf : (excT ci).fields = []) (hdb : ((excT ci).name == ("__debug__" : Str)) = false) :
    PS X (.Raise (some (.Call (.Name (excT ci).name p) [.Constant (.str m) j p2] [] pos)) none pos') (tS c rt (sRaise0 ci)) := by
  refine PS.imp (ps_raise hcm tk (pmk_own PySem.F.excBase_ValueError M.q M.g M.k (raises_own M.b M.t) hg hdb)) fun D σ H h => ?_
  obtain ⟨F, δ, E, h⟩ := h
  exact gs_ex0 hK hf E h
/-! ### a + b by the class's own __add__ -/
theorem binO {prog : Program} {w : World} {A : Around} {Er : Value → Shared → Prop} {s : Shared} {K : PySem.W.Frag} {x C f : Addr} {ox : Obj} {od : Option Obj} {op : Operator} {b : Value} {cd : ClassData} {rest : List Value} {Q : Value → Shared → Prop} (X : K.In s.heap) (I : PySem.W.InstAt s.heap x ox C od) (hb : PySem.W.Looks (model prog w) s.heap (typeOf b) (.ref C)) (hcd : PySem.W.clsIn K C = some cd) (hm : cd.mro = .ref C :: rest)
    (hs : PySem.W.findIn K (.ref C) (PySem.dunder op.info.2) = some (some (.ref f))) (hf : PySem.W.isFn K (.ref f) = true)
    (h : wpAny (model prog w) A (call (.ref f) [.ref x, b]) (PySem.W.CmpBack Q) Er s) : wpAny (model prog w) A (binaryOp op (.ref x) b) Q Er s := by
  have hc : PySem.W.selfFirst K C = true := by
    unfold PySem.W.selfFirst
    rw [hcd]
    show (cd.mro.head? == some (.ref C)) = true
    rw [hm]
    exact beq_self_eq_true _
  unfold binaryOp
  refine wpAny_holding (wpAny_bind ?_)
  unfold binaryOp1
  refine wpAny_bind (I.type.here (wpAny_bind (hb.here (wpAny_bind ((PySem.W.fills_K X hcd hm hs).here ?_)))))
  simp only [beq_self_eq_true, if_true]
  refine wpAny_bind (wpAny_pure ?_)
  simp only [Bool.and_false, Bool.false_eq_true, if_false, Bool.false_and]
  refine wpAny_bind (wpAny_pure ?_)
  simp only [Bool.false_eq_true, if_false]
  refine wpAny_bind (m := tryMethod (.ref x) _ b) ?_
  unfold tryMethod
  refine wpAny_bind (PySem.W.special_fn X I hs (beq_iff_eq.mp hf) (wpAny_mono h (fun v s' hv => ?_) fun _ _ e => e))
  cases v <;> first | exact hv.elim | exact wpAny_pure (wpAny_pure (wpAny_pure hv))
structure SelOk (K : PySem.W.Frag) (C : Addr) : Prop where
  ex : ∃ cd rest, PySem.W.clsIn K C = some cd ∧ cd.mro = .ref C :: rest
theorem selB_ok {K : PySem.W.Frag} {ci : Nat} {C : Str} (h : selB K C = true) (hC : (clsT ci).name = C) : SelOk K (clsA K ci) := by
  subst hC
  unfold selB at h
  split at h
  · rename_i cd e
    split at h
    · rename_i C' r e2
      obtain rfl := of_decide_eq_true h
      exact ⟨cd, r, e, e2⟩
    · cases h
  · cases h
section
variable {CX : CXT} {k : Nat} {f C : Addr} {fd : FuncData} {ps : List Str} {sp : Sp} {E : L2.St → XK} {ta tb : TE}
theorem pe_binO {op : Operator} (S : SelOk X.K C) (hm : Meth X.K C (PySem.dunder op.info.2) f) (FF : FnOk X.prog X.w X.K X.mg X.base CX k f fd ps sp) (hr : Room k X.A) (hb : Binds X.K fd ps []) (hx : ∀ σ, PassesAt CX X σ (E σ)) (ha : PE X a ta) (hb' : PE X b tb) :
    PE X (.BinOp a op b pos) (fun σ H Q => ta σ H fun x H1 => tb σ H1 fun y H2 => ∃ a1 dx1 fs1 a2 dx2 fs2, x = .ref a1 ∧ y = .ref a2 ∧ H2 a1 = some (.ins C dx1 fs1) ∧ H2 a2 = some (.ins C dx2 fs2) ∧ sp [x, y] H2 Q (E σ)) := by
  refine ⟨fun pins s σ H Q I h => wpAny_BinOp (binT ha hb' I h fun v u s2 x y H2 I2 rx ry q => ?_)⟩
  obtain ⟨a1, dx1, fs1, a2, dx2, fs2, rfl, rfl, e1, e2, q⟩ := q
  obtain rfl : v = Value.ref a1 := rx
  obtain rfl : u = Value.ref a2 := ry
  obtain ⟨mA, O, _⟩ := ins_get I2.hok e1
  obtain ⟨od, J, _⟩ := O.look
  obtain ⟨mA2, O2, _⟩ := ins_get I2.hok e2
  obtain ⟨od2, J2, _⟩ := O2.look
  obtain ⟨cd, rest, hcd, hmro⟩ := S.ex
  refine binO I2.kIn J J2.type hcd hmro hm.at_ hm.fn (wpAny_mono (run_fnS FF hr hb (hx σ) I2 (us := [.ref a1, .ref a2]) (vs := [.ref a1, .ref a2]) (.cons rfl (.cons rfl .nil)) (by exact q)) (fun r s' hq => ?_) fun _ _ z => z)
  obtain ⟨v, H', I', rv, q'⟩ := hq
  cases r with
  | notImplemented =>
    exfalso
    cases v with
    | int i => obtain ⟨t, z⟩ := (show ∃ t, Value.notImplemented = Value.int i t from rv); cases z
    | str i => obtain ⟨t, z⟩ := (show ∃ t, Value.notImplemented = Value.str i t from rv); cases z
    | byt i => obtain ⟨t, z⟩ := (show ∃ t, Value.notImplemented = Value.bytes i t from rv); cases z
    | flt i => obtain ⟨t, z⟩ := (show ∃ t, Value.notImplemented = Value.float i t from rv); cases z
    | _ => cases rv
  | _ => exact ⟨v, H', I', rv, q'⟩
end
def fBinO (ci : Nat) (φ : Fn) (fa fb : EF) : EF := fun δ => bnd (fa δ) fun d => if isIns ci d then bnd (fb δ) fun y => if isIns ci y then φ [d, y] else none else none
theorem e_binO {ci k j : Nat} {op : Operator} {m : Str} {ret : Ty} {φ : Fn} (M : PCal X.prog X.w X.K X.mg X.base ci m k ⟨[.fz, .fz], ret⟩ φ) (hmm : m = PySem.dunder op.info.2) (S : SelOk c.K (clsA c.K ci)) (hr : Room j X.A) (hj : k ≤ j) (hK : X.K = c.K) (tk : Takes X c.W)
    (ho : PE X a (tV c ta fa)) (ca : coe ta .fz = true) (hb : PE X b (tV c tb fb)) (cb : coe tb .fz = true) : PE X (.BinOp a op b pos) (tV c ret (fBinO ci φ fa fb)) := by
  subst hmm
  obtain ⟨⟨f, fd, ps, FF, hm, hbn⟩, nf⟩ := M
  refine PE.imp (pe_binO (hK ▸ S : SelOk X.K (clsA X.K ci)) hm FF (hr.mono hj) hbn (fun σ => passAt tk σ) ho hb) fun σ H Q h => ?_
  obtain ⟨F, δ, E, h⟩ := h
  refine tV.goV ca E h fun d v F1 H1 u1 E1 ⟨A, hx⟩ h1 => ?_
  by_cases g : isIns ci d = true
  · rw [if_pos g] at h1
    obtain ⟨sd, rfl⟩ := isIns_ok g
    refine tV.goV cb E1 h1 fun d2 v2 F2 H2 u2 E2 ⟨A2, hx2⟩ h2 => ?_
    by_cases g2 : isIns ci d2 = true
    · rw [if_pos g2] at h2
      obtain ⟨sd2, rfl⟩ := isIns_ok g2
      obtain ⟨a0, dx, vs, rfl, ea⟩ := is_ins hx.is
      obtain ⟨a2, dx2, vs2, rfl, ea2⟩ := is_ins hx2.is
      refine ⟨a0, dx, _, a2, dx2, _, rfl, rfl, hK ▸ (u1.trans u2).fh _ _ (u2.ff _ _ ea), hK ▸ u2.fh _ _ ea2, ?_⟩
      refine ⟨F2, [.ins ci sd, .ins ci sd2], u2.fh, ⟨.ref a0, [.ref a2], rfl, ⟨A, hK ▸ (hx.up u2)⟩, .ref a2, [], rfl, ⟨A2, hK ▸ hx2⟩, by simp only [ViewL]⟩, ?_⟩
      cases r : φ [.ins ci sd, .ins ci sd2] with
      | none => rw [r] at h2; exact h2
      | some r' =>
        rw [r] at h2
        cases r' with
        | ok d => exact hK ▸ h2
        | ex x => exact fun cls u dx F' H' rv up xr => h2 cls u dx F' H' rv up (hK ▸ xr)
    · rw [if_neg g2] at h2; exact h2.elim
  · rw [if_neg g] at h1; exact h1.elim
end Ev

set_option maxHeartbeats 4000000
/-! Ev, part Xq: errors of two fields, C() of a class without __init__, a last clause `except C:` behind named ones. -/
namespace Ev
open PySem PySem.Spec PySem.Calls PyProof.Rows L2 NdefX OEX
theorem ini2_ok {CX : CXT} {P : Program} {w : World} {K : PySem.W.Frag} {mg : Str → Option Value} {base : Heap} {k : Nat} {D f cc cda : Addr} {name qual : Str} {params : Arguments} {body : List Stmt} {scope : Scope} {fd : FuncData} {N : List Str} {fl fm : Str}
    {p0 p1 p2 p3 pos p4 q1 q2 q3 q4 r1 r2 r3 r4 : Pos} {z1 : Str} {j1 : Nat} {ar : Arg}
    (IK : IniK P K D f cc cda name qual params body scope fd) (S : NScope N [ar.arg, fl, fm] ["__class__"] scope) (hbd : body = [.Expr (.Call (.Attribute (.Call (.Name "super" p0) [] [] p1) "__init__" p2) [.Constant (.str z1) j1 p3] [] pos) p4, .Assign [.Attribute (.Name ar.arg q1) fl q2] (.Name fl q3) q4, .Assign [.Attribute (.Name ar.arg r1) fm r2] (.Name fm r3) r4])
    (hks : scope.names.lookup ("super" : Str) = some .globalImplicit) (hp : (params.posonlyargs ++ params.args).head? = some ar)
    {pl : PySem.Env → Sem Bool} (hev : ∀ env : PySem.Env, eval (.Call (.Attribute (.Call (.Name "super" p0) [] [] p1) "__init__" p2) [.Constant (.str z1) j1 p3] [] pos) env = (do
      let ov ← attributeBase (.Call (.Name "super" p0) [] [] p1) "__init__" env (eval (.Call (.Name "super" p0) [] [] p1) env)
      standAt p2.atName
      let (f, first) ← holding [ov] (getMethod ov "__init__" (pl env))
      callWith pos f first (backTo pos (starEach [.Constant (.str z1) j1 p3] env)) []))
    (hsw : ∀ env : PySem.Env, swapsWith (.Name fl q3) (some (.Attribute (.Name ar.arg q1) fl q2)) q4.line env = pure false) (hsx : ∀ env : PySem.Env, swapsWith (.Name fm r3) (some (.Attribute (.Name ar.arg r1) fm r2)) r4.line env = pure false)
    (h0 : N[0]? = some ar.arg) (h1 : N[1]? = some fl) (h2 : N[2]? = some fm) (n0 : (ar.arg == ("__debug__" : Str)) = false ∧ (ar.arg == ("__classdict__" : Str)) = false) (n1 : (fl == ("__debug__" : Str)) = false ∧ (fl == ("__classdict__" : Str)) = false) (n2 : (fm == ("__debug__" : Str)) = false ∧ (fm == ("__classdict__" : Str)) = false) :
    FnOk P w K mg base CX (k + 1) f fd [ar.arg, fl, fm] (spX K D [fl, fm]) := by
  refine ini_run (flds := [fl, fm]) (ps := [fl, fm]) IK S hbd hks hp hev (fun vs H Q E h => ?_) fun A outer s H vs Q E h => ?_
  · obtain ⟨a, C, ys, rfl, hl, _⟩ := h
    simp only [List.length_cons, hl, List.length_nil]
  · obtain ⟨a, C, ys, rfl, hl, IC, ha, hq⟩ := h
    match ys, hl with
    | [y, z], _ =>
    refine ⟨a, C, [y, z], _, rfl, IC, ha, pss_cons (ps_ost (pe_var (i := 0) h0 (vis_local (S.par _ (by simp))) n0.1 n0.2) (pe_var (i := 1) h1 (vis_local (S.par _ (by simp))) n1.1 n1.2) (hsw _)) (pss_cons (ps_ost (pe_var (i := 0) h0 (vis_local (S.par _ (by simp))) n0.1 n0.2) (pe_var (i := 2) h2 (vis_local (S.par _ (by simp))) n2.1 n2.2) (hsx _)) pss_nil), ?_⟩
    refine ⟨y, by unfold startF; simp, .ref a, by unfold startF; simp, a, C, rfl, IC.ox, IC.fl _ (by simp), .inl ⟨ha, fun dx d1 d2 => ?_⟩⟩
    refine ⟨z, by unfold startF; simp, .ref a, by unfold startF; simp, a, C, rfl, IC.ox, IC.fl _ (by simp), .inr ⟨dx, [(fl, y)], upd_same, by rw [upd_ne d2, upd_same], by simp, ?_⟩⟩
    have e : upd (upd (upd H dx (exd dx [(fl, y)])) a (exo a C (some dx))) dx (exd dx [(fm, z), (fl, y)]) = upd (upd H dx (exd dx ([fl, fm].zip [y, z]).reverse)) a (exo a C (some dx)) := by
      funext b
      by_cases hb : b = dx
      · rw [hb, upd_same, upd_ne d2, upd_same]
        rfl
      · rw [upd_ne hb]
        by_cases hb2 : b = a
        · rw [hb2, upd_same, upd_same]
        · rw [upd_ne hb2, upd_ne hb, upd_ne hb2, upd_ne hb]
    rw [e]
    exact hq dx d1 d2
theorem xmk2 {P : Program} {w : World} {K : PySem.W.Frag} {mg : Str → Option Value} {base : Heap} {ci : Nat} {D : Addr} {qual file name : Str} {params : Arguments} {body : List Stmt} {scope : Scope} {N : List Str} {fl fm : Str}
    {p0 p1 p2 p3 pos p4 q1 q2 q3 q4 r1 r2 r3 r4 : Pos} {z1 : Str} {j1 : Nat} {ar : Arg} {pl : PySem.Env → Sem Bool}
    (h : iniKB K D qual file = true) (hP : P.main.file = file) (hT : (P.main.scope.names.lookup ("super" : Str)).isSome = false)
    (hs : PySem.W.keepIn K (.ref (He.ma K D "__init__")) = true ∧ ∃ (oc : Value) (od : Option Addr) (osl : Array (Option Value)) (fd : FuncData), K.lookup (He.ma K D "__init__") = some ⟨oc, od, .func fd, osl⟩ ∧ fd.name = name ∧ fd.qualname = qual ∧ fd.params = params ∧ fd.body = .stmts body ∧ fd.scope = scope ∧ fd.globals = mainGlobals ∧ fd.builtins = builtinsNs ∧
      PySem.W.codeIn K fd.code qual = true ∧ He.dflB K fd.defaults [] = true ∧ He.kwdB K fd.kwdefaults [] = true)
    (hC : iniCB K D (He.ga K (excT ci).name) [fl, fm] = true) (hf : He.eqO (PySem.W.findIn K (.ref (He.ga K (excT ci).name)) "__init__") (some (some (.ref (He.ma K D "__init__")))) = true) (hg : mg (excT ci).name = some (.ref (He.ga K (excT ci).name))) (hfl : (excT ci).fields = [fl, fm])
    (S : NdefX.NScope N [ar.arg, fl, fm] ["__class__"] scope) (hbd : body = [.Expr (.Call (.Attribute (.Call (.Name "super" p0) [] [] p1) "__init__" p2) [.Constant (.str z1) j1 p3] [] pos) p4, .Assign [.Attribute (.Name ar.arg q1) fl q2] (.Name fl q3) q4, .Assign [.Attribute (.Name ar.arg r1) fm r2] (.Name fm r3) r4])
    (hks : scope.names.lookup ("super" : Str) = some .globalImplicit) (hp : (params.posonlyargs ++ params.args).head? = some ar)
    (hev : ∀ env : PySem.Env, eval (.Call (.Attribute (.Call (.Name "super" p0) [] [] p1) "__init__" p2) [.Constant (.str z1) j1 p3] [] pos) env = (do
      let ov ← attributeBase (.Call (.Name "super" p0) [] [] p1) "__init__" env (eval (.Call (.Name "super" p0) [] [] p1) env)
      standAt p2.atName
      let (f, first) ← holding [ov] (getMethod ov "__init__" (pl env))
      callWith pos f first (backTo pos (starEach [.Constant (.str z1) j1 p3] env)) []))
    (hsw : ∀ env : PySem.Env, swapsWith (.Name fl q3) (some (.Attribute (.Name ar.arg q1) fl q2)) q4.line env = pure false) (hsx : ∀ env : PySem.Env, swapsWith (.Name fm r3) (some (.Attribute (.Name ar.arg r1) fm r2)) r4.line env = pure false)
    (h0 : N[0]? = some ar.arg) (h1 : N[1]? = some fl) (h2 : N[2]? = some fm) (n0 : (ar.arg == ("__debug__" : Str)) = false ∧ (ar.arg == ("__classdict__" : Str)) = false) (n1 : (fl == ("__debug__" : Str)) = false ∧ (fl == ("__classdict__" : Str)) = false) (n2 : (fm == ("__debug__" : Str)) = false ∧ (fm == ("__classdict__" : Str)) = false)
    (hbi : ∀ (kV doc pm : Value) (cdv ct : Value) (cc : Addr) (us : List Value), us.length = 3 → bindArgs (PySem.W.ksFn name qual params body scope .none kV doc pm none cdv ct cc) ⟨us, []⟩ = pure ([ar.arg, fl, fm].zip us)) :
    XMk P w K mg base ci 1 := by
  obtain ⟨cc, cda, fd, IK, ht, kV, doc, pm, ct, e⟩ := iniK_ok h hP hT hs.2
  refine ⟨⟨D, He.ma K D "__init__", fd, [ar.arg, fl, fm], ?_, He.eqO_ok hf, ht, ?_, ?_⟩, hg, ⟨fl, [fm], hfl⟩⟩
  · rw [hfl]
    exact ini2_ok (k := 0) IK S hbd hks hp hev hsw hsx h0 h1 h2 n0 n1 n2
  · subst e
    exact .all (hbi kV doc pm (.ref cda) ct cc)
  · rw [hfl]
    exact iniCB_ok hC
variable {X : Cx} {c : Cp} {F G H F' G' H' : Hp} {σ : L2.St} {δ : Env} {a b e tg : Expr} {es : List Expr} {pos p : Pos} {x : Str} {ta tb tc ty rt : Ty} {oa ob oc o : OT} {os : List OT} {fa fb fc : Env → Option R} {fs : Env → Option RL} {st : Stmt} {ss : List Stmt} {A A' : List Addr}
theorem pmk_own0 {C : Addr} {bmB : List Value} {B newId initId : String} (F : ExcBaseFacts B newId initId bmB) (q : PySem.W.excIn X.K C bmB newId = true) (gC : X.mg x = some (.ref C)) (kC : PySem.W.keepIn X.K (.ref C) = true) (r : Raises X (.ref C)) (hg : Gl X x)
    (hdb : (x == ("__debug__" : Str)) = false) : PMk X (.Call (.Name x p) [] [] pos) (fun _ H Q => Q (.ref C) none H) := by
  intro pins s σ H Q I h
  refine wpAny_Call_Name_kw (ld_glob I hg gC ?_ hdb)
  refine PySem.W.callWith_K0 (first := []) I.kIn kC ?_
  obtain ⟨bm, N, nm, qn, bs, hdct, sn, sub, ab, col, dd, k0, k1, k2, k3, k5, mN, hC, hN, hni, T⟩ := exc_obj I.kIn q
  refine wpAny_call_exc_subT F T hC hN hni (fun h' e hm => ?_) (Nat.zero_le _)
  exact mk_of I hm r h (I.hok.gone hm.new)
/-- raise C() -/
theorem st_raiseO0 {ci : Nat} {pos' : Pos} (M : XoOk X.K X.mg ci) (hK : X.K = c.K) (hcm : X.calm = true) (tk : Takes X c.W) (hg : Gl X (excT ci).name) (hf : (excT ci).fields = []) (hdb : ((excT ci).name == ("__debug__" : Str)) = false) :
    PS X (.Raise (some (.Call (.Name (excT ci).name p) [] [] pos)) none pos') (tS c rt (sRaise0 ci)) := by
  refine PS.imp (ps_raise hcm tk (pmk_own0 PySem.F.excBase_ValueError M.q M.g M.k (raises_own M.b M.t) hg hdb)) fun D σ H h => ?_
  obtain ⟨F, δ, E, h⟩ := h
  exact gs_ex0 hK hf E h
/-! ### try with a last clause that names nothing -/
def wV (K : PySem.W.Frag) (i : Nat) (Wout : WX) (D : Ends) (z : Cla) : List Cla → WX
  | [] => fun cls d σ H => ∃ b, PySem.W.exmOne K cls z.1 = some b ∧ (b = true → ∀ a, H a = none → z.2 a cls d D σ H) ∧ (b = false → Wout cls d σ H)
  | (cv, ts) :: r => fun cls d σ H => ∃ b, PySem.W.exmOne K cls cv = some b ∧ (b = true → ∀ a, H a = none → ts a cls d (endN i D) (σ.set i (some (.ref a))) H) ∧ (b = false → wV K i Wout D z r cls d σ H)
inductive HdsV (X : Cx) (i : Nat) (n : Str) (z : Cla) : List ExceptHandler → List Cla → Prop
  | last {xh : Str} {b₀ : Stmt} {suite : List Stmt} {np pos' : Pos} (hc : Names X xh z.1)
      (hsu : ∀ (a : Addr) (oe : Obj) (cls : Value) (d : Option Addr) (pn : List (Addr × Obj)), Zc cls d oe → (∃ vs, oe.data = .fields vs) → PSs (X.suite a ((a, oe) :: pn)) (b₀ :: suite) (z.2 a cls d)) :
      HdsV X i n z [.ExceptHandler (some (.Name xh np)) none (b₀ :: suite) pos'] []
  | cons {xh : Str} {cv : Value} {ts : Addr → Value → Option Addr → TS} {b₀ : Stmt} {suite : List Stmt} {np pos' : Pos} {hds : List ExceptHandler} {l : List Cla} (hc : Names X xh cv)
      (hsu : ∀ (a : Addr) (oe : Obj) (cls : Value) (d : Option Addr) (pn : List (Addr × Obj)), Zc cls d oe → (∃ vs, oe.data = .fields vs) → PSs (X.suite a ((a, oe) :: pn)) (b₀ :: suite) (ts a cls d)) (r : HdsV X i n z hds l) :
      HdsV X i n z (.ExceptHandler (some (.Name xh np)) (some n) (b₀ :: suite) pos' :: hds) ((cv, ts) :: l)
theorem try_v {X : Cx} {i : Nat} {n : Str} {body : List Stmt} {h₀ : ExceptHandler} {hds : List ExceptHandler} {l : List Cla} {z : Cla} {pos : Pos} {tb : WX → TS} {Wout : WX} (hs : X.stack = X.env :: X.outer) (hf : X.env.frame = some X.env.locals) (hN : X.N.Nodup) (hi : X.N[i]? = some n) (hln : X.env.kindOf n = some .local) (tk : Takes X Wout)
    (hb : ∀ (W : WX) (pn : List (Addr × Obj)) (xe : Value → Shared → Prop), Takes (X.tr pn xe) W → PassesOwn (model X.prog X.w) X.A X.env xe → PSs (X.tr pn xe) body (tb W)) (hh : HdsV X i n z (h₀ :: hds) l) :
    PS X (.Try body (h₀ :: hds) [] [] pos) (fun D σ H => tb (wV X.K i Wout D z l) D σ H) := ⟨fun pins s σ H D I h => by
  have ok := I.ok; have hfr : X.A.frames = some (X.env :: X.outer) := by rw [ok.frames, hs]
  refine wpAny_Try_except (wpAny_mono ((hb (wV X.K i Wout D z l) (X.pn ++ pins) (fun e s₁ => wpAny (model X.prog X.w) X.A (noteFrame e X.env) (fun _ s₂ => wpAny (model X.prog X.w) X.A (setFlight e none) (fun _ s₃ => wpAny (model X.prog X.w) X.A (handleBy e X.env (h₀ :: hds)) (SP X pins D) X.xe s₃) X.xe s₂) X.xe s₁) (fun u s' xx => ?_) PassesOwn.looking).run [] s σ H D (I.toTry _) h) (fun f s1 hsp => ?_) fun e s1 he => he)
  · obtain ⟨a, B, sI, pins', σ', H', cls, d, rfl, J0, nb, up, sky, na, os, ag, wish⟩ := xx
    have J : Inv X pins σ' H' sI := J0.ofTry ok
    change wpAny (model X.prog X.w) X.A (noteFrame (.ref a) X.env) _ _ _
    refine Sky.land Zc.steady hfr hf (by rw [← hs]; exact sky) fun h3 fl3 up3 => ?_
    have J3 : Inv X pins σ' H' { s' with heap := h3 } := J.landed nb fl3.1 (up.trans up3) os ag; obtain ⟨oe3, vs3, he3, hz3, hd3⟩ := fl3.there
    have nfr : a ∉ frs (X.env :: X.outer) := fun hm => by
      obtain ⟨_, o', e', hnf⟩ := fl3.2.2.1.mem hm
      rw [he3] at e'; cases e'; exact hnf _ hd3
    have nL : a ≠ X.env.locals := fun z => nfr (List.mem_filterMap.mpr ⟨X.env, List.mem_cons_self, by rw [hf, z]⟩)
    have nF : a ∉ X.fs := fun hm => by obtain ⟨e, he, q⟩ := List.mem_filterMap.mp hm; exact nfr (List.mem_filterMap.mpr ⟨e, List.mem_cons_of_mem _ he, q⟩)
    have S3 := J3.suite he3 hd3 na nL nF
    have walk : ∀ {hs2 : List ExceptHandler} {l2 : List Cla}, HdsV X i n z hs2 l2 → wV X.K i Wout D z l2 cls d σ' H' → wpAny (model X.prog X.w) X.A (handleBy (.ref a) X.env hs2) (SP X pins D) X.xe { s' with heap := h3 } := fun {hs2 l2} hk => by
      induction hk with
      | @last xh b₀ suite np pos' hc hsu =>
        intro w; obtain ⟨b, hb1, yes, no⟩ := w
        refine wpAny_handleBy_cons (codeAny_handlers_test ?_) (by intro q; cases q)
        have T0 : PySem.W.Looks (model X.prog X.w) h3 (typeOf (.ref a)) cls := fun A Q E s k q => wpAny_typeOf_ref (k _ _ he3) (by rw [hz3.1]; exact q)
        have M0 := PySem.W.exm_one (M := model X.prog X.w) (J3.kIn) T0 hb1
        have ask : ∀ {Q : Value → Shared → Prop} {E : Value → Shared → Prop}, Q z.1 { s' with heap := h3 } → wpAny (model X.prog X.w) (X.A.mark (some (.ref a))) (eval (.Name xh np) X.env) Q E { s' with heap := h3 } := fun {Q E} q => by
          obtain ⟨hg, hdb, hm | ⟨hm, hv, hnn⟩⟩ := hc
          · exact ld_glob (X := X.suite a ((a, oe3) :: (X.pn ++ pins))) S3 hg hm q hdb
          · exact ld_blt (X := X.suite a ((a, oe3) :: (X.pn ++ pins))) S3 hg hm hv q hnn hdb
        refine ask (M0.here ?_)
        cases b with
        | false =>
          have w := no rfl
          refine wpAny_handleBy_nil ?_
          obtain ⟨_, _, _, oe, vs, T, oT, ts', he, hz, hd, h1, hr⟩ := id fl3
          unfold PySem.passOn; refine wpAny_bind (wpAny_field he hd h1 ?_); rw [if_neg (show ¬ ((Value.ref T == Value.none) = true) from by simp)]
          have out : wpAny (model X.prog X.w) X.A (setFlight (.ref a) X.env.frame) (fun _ s4 => wpAny (model X.prog X.w) X.A (throw (.ref a) : Sem Flow) (SP X pins D) X.xe s4) X.xe { s' with heap := h3 } := by
            rw [hf]; exact HandSPX.setFlight_upZ fl3 fun h4 hh4 up4 => wpAny_throw (tk _ _ ⟨a, B, sI, pins, σ', H', cls, d, rfl, J, nb, (up.trans up3).trans up4, .inr (.inr (by rw [hs]; exact hh4)), na, os, ag, w⟩)
          first | exact wpAny_bind (wpAny_pure (wpAny_bind out)) | exact wpAny_bind out
        | true =>
          refine codeAny_handlers_suite (HandSPX.lands_againZ fl3 fun h4 fl4 up4 => ?_)
          have J4 : Inv X pins σ' H' { s' with heap := h4 } := J.landed nb fl4.1 ((up.trans up3).trans up4) os ag; obtain ⟨oe4, vs4, he4, hz4, hd4⟩ := fl4.there
          have S4 := J4.suite he4 hd4 na nL nF
          refine wpAny_mono ((hsu a oe4 cls d (X.pn ++ pins) hz4 ⟨_, hd4⟩).run [] _ _ H' _ S4 (yes rfl a na)) (fun f s6 hsp => ?_) (fun _ _ z => False.elim z)
          cases f with
          | next => obtain ⟨σ6, H6, S6, q6⟩ := hsp; exact ⟨_, _, S6.unsuite ok, q6⟩
          | brk => obtain ⟨σ6, H6, S6, q6⟩ := hsp; exact ⟨_, _, S6.unsuite ok, q6⟩
          | cont => obtain ⟨σ6, H6, S6, q6⟩ := hsp; exact ⟨_, _, S6.unsuite ok, q6⟩
          | ret u => obtain ⟨v6, σ6, H6, S6, r6, q6⟩ := hsp; exact ⟨_, _, _, S6.unsuite ok, r6, q6⟩
      | @cons xh cv ts b₀ suite np pos' hds2 l2 hc hsu r ih =>
        intro w; obtain ⟨b, hb1, yes, no⟩ := w
        refine wpAny_handleBy_cons (codeAny_handlers_test ?_) (by intro q; cases q)
        have T0 : PySem.W.Looks (model X.prog X.w) h3 (typeOf (.ref a)) cls := fun A Q E s k q => wpAny_typeOf_ref (k _ _ he3) (by rw [hz3.1]; exact q)
        have M0 := PySem.W.exm_one (M := model X.prog X.w) (J3.kIn) T0 hb1
        have ask : ∀ {Q : Value → Shared → Prop} {E : Value → Shared → Prop}, Q cv { s' with heap := h3 } → wpAny (model X.prog X.w) (X.A.mark (some (.ref a))) (eval (.Name xh np) X.env) Q E { s' with heap := h3 } := fun {Q E} q => by
          obtain ⟨hg, hdb, hm | ⟨hm, hv, hnn⟩⟩ := hc
          · exact ld_glob (X := X.suite a ((a, oe3) :: (X.pn ++ pins))) S3 hg hm q hdb
          · exact ld_blt (X := X.suite a ((a, oe3) :: (X.pn ++ pins))) S3 hg hm hv q hnn hdb
        refine ask (M0.here ?_)
        cases b with
        | false => exact ih (no rfl)
        | true =>
          refine codeAny_handlers_suite_as (HandSPX.lands_againZ fl3 fun h4 fl4 up4 => ?_)
          have J4 : Inv X pins σ' H' { s' with heap := h4 } := J.landed nb fl4.1 ((up.trans up3).trans up4) os ag; obtain ⟨oe4, vs4, he4, hz4, hd4⟩ := fl4.there
          refine store_ok (X := X.suite a ((a, oe4) :: (X.pn ++ pins))) (v := .ref a) (J4.suite he4 hd4 na nL nF) hN hi (.inl hln) rfl (fun s5 S5 => ?_) (.inr hln)
          refine wpAny_mono ((hsu a oe4 cls d (X.pn ++ pins) hz4 ⟨_, hd4⟩).run [] s5 _ H' _ S5 (yes rfl a na)) (fun f s6 hsp => ?_) fun _ _ z => False.elim z
          have fin : ∀ {σ6 : L2.St} {H6 : Hp} {Q : Shared → Prop}, Inv (X.suite a ((a, oe4) :: (X.pn ++ pins))) [] σ6 H6 s6 → (∀ s7, Inv X pins (σ6.set i none) H6 s7 → Q s7) → wpAny (model X.prog X.w) X.A (do bindName X.env n .none; unbindBehindTheSuite X.env n pos') (fun _ s7 => Q s7) X.xe s6 := fun {σ6 H6 Q} S6 hq => gone_ok (S6.unsuite ok) hN hi hln hq
          cases f with
          | ret u => obtain ⟨v6, σ6, H6, S6, r6, q6⟩ := hsp; exact fin S6 fun s7 J7 => ⟨_, _, _, J7, r6, q6⟩
          | next => obtain ⟨σ6, H6, S6, q6⟩ := hsp; exact fin S6 fun s7 J7 => ⟨_, _, J7, q6⟩
          | brk => obtain ⟨σ6, H6, S6, q6⟩ := hsp; exact fin S6 fun s7 J7 => ⟨_, _, J7, q6⟩
          | cont => obtain ⟨σ6, H6, S6, q6⟩ := hsp; exact fin S6 fun s7 J7 => ⟨_, _, J7, q6⟩
    exact walk hh wish
  · cases f with
    | ret u => obtain ⟨v, σ', H', J', r, q⟩ := hsp; exact ⟨v, σ', H', J'.ofTry ok, r, q⟩
    | next => obtain ⟨σ', H', J', q⟩ := hsp; exact wpAny_execs_nil ⟨σ', H', J'.ofTry ok, q⟩
    | brk => obtain ⟨σ', H', J', q⟩ := hsp; exact ⟨σ', H', J'.ofTry ok, q⟩
    | cont => obtain ⟨σ', H', J', q⟩ := hsp; exact ⟨σ', H', J'.ofTry ok, q⟩⟩
/-- the end of a suite that names nothing -/
def hX : Option Out → Option Out
  | some (.ex _ _) => none
  | r => r
def pickV (i : Nat) (x : Xd) (tb : List (Nat × Bool)) (h : So) (δ : Env) : List Cls2 → Option Out
  | [] => match tb.lookup x.c with
    | some true => hX (h δ)
    | some false => some (.ex x δ)
    | none => none
  | (tc, g) :: r => match tc.lookup x.c with
    | some true => hndO i (g x (δ.set i (some .xv)))
    | some false => pickV i x tb h δ r
    | none => none
def sTryV (g : So) (i : Nat) (cs : List Cls2) (tb : List (Nat × Bool)) (h : So) : So := fun δ => match g δ with
  | some (.ex x δ1) => pickV i x tb h δ1 cs
  | r => r
def Cp.qt (c : Cp) : Cp := { c with W := fun _ _ _ _ => False }
def tsV (c : Cp) (rt : Ty) (h : So) : Addr → Value → Option Addr → TS := fun _ _ _ => tS c.qt rt h
inductive HdsW (X : Cx) (c : Cp) (rt : Ty) (i : Nat) (n : Str) (tb : List (Nat × Bool)) (cz : Value) (h : So) : List ExceptHandler → List Cla → List Cls2 → Prop
  | last {xh : Str} {b₀ : Stmt} {suite : List Stmt} {np pos' : Pos} (hc : Names X xh cz) (htb : ∀ q ∈ tb, PySem.W.exmOne c.K (.ref (He.ga c.K (excT q.1).name)) cz = some q.2)
      (hsu : ∀ (a : Addr) (oe : Obj) (pn : List (Addr × Obj)), PSs (X.suite a ((a, oe) :: pn)) (b₀ :: suite) (tS c.qt rt h)) : HdsW X c rt i n tb cz h [.ExceptHandler (some (.Name xh np)) none (b₀ :: suite) pos'] [] []
  | cons {xh : Str} {cv : Value} {b₀ : Stmt} {suite : List Stmt} {np pos' : Pos} {hds : List ExceptHandler} {l : List Cla} {l2 : List Cls2} {tc : List (Nat × Bool)} {g : Xd → So} (hc : Names X xh cv) (htb : ∀ q ∈ tc, PySem.W.exmOne c.K (.ref (He.ga c.K (excT q.1).name)) cv = some q.2)
      (hsu : ∀ (x : Xd) (a : Addr) (oe : Obj) (d : Option Addr) (pn : List (Addr × Obj)) (F0 : Hp), (x.c, true) ∈ tc → Zc (.ref (He.ga c.K (excT x.c).name)) d oe → (∃ vs, oe.data = .fields vs) → (∀ H1, XRep c.K F0 H1 x (.ref (He.ga c.K (excT x.c).name)) d) → PSs (X.suite a ((a, oe) :: pn)) (b₀ :: suite) (tS (c.hc i a F0) rt (g x)))
      (r : HdsW X c rt i n tb cz h hds l l2) : HdsW X c rt i n tb cz h (.ExceptHandler (some (.Name xh np)) (some n) (b₀ :: suite) pos' :: hds) ((cv, tsN c rt i tc g) :: l) ((tc, g) :: l2)
theorem HdsW.toV {i : Nat} {n : Str} {tb : List (Nat × Bool)} {cz : Value} {h : So} : ∀ {hds : List ExceptHandler} {l : List Cla} {l2 : List Cls2}, HdsW X c rt i n tb cz h hds l l2 → HdsV X i n (cz, tsV c rt h) hds l
  | _, _, _, .last hc htb hsu => .last hc fun a oe cls d pn hz hd => hsu a oe pn
  | _, _, _, .cons hc htb hsu r => .cons hc (fun a oe cls d pn hz hd => ⟨fun pins s σ H D I q => by
    obtain ⟨x, F0, rfl, hm, xr, q⟩ := q
    exact (hsu x a oe d pn F0 hm hz hd xr).run pins s σ H D I q⟩) r.toV
theorem pickV_ok {i : Nat} {n : Str} {D : Ends} {cls : V} {u : Value} {x : Xd} {dx : Option Addr} {σ1 : L2.St} {F1 H1 : Hp} {δ1 : Env} {tb : List (Nat × Bool)} {cz : Value} {h : So} (hK : X.K = c.K) (hi : i < c.Ks.length) (rv : RelV cls u) (sf : Same F F1) (E1 : c.E F1 H1 σ1 δ1) (xr : XRep c.K F1 H1 x cls dx) :
    ∀ {hds : List ExceptHandler} {l : List Cla} {l2 : List Cls2}, HdsW X c rt i n tb cz h hds l l2 → Gs c rt F D (pickV i x tb h δ1 l2) → wV X.K i c.W D (cz, tsV c rt h) l u dx σ1 H1
  | _, _, _, .last hc htb hsu, q => by
    obtain rfl := xr.1
    obtain rfl : u = Value.ref (He.ga c.K (excT x.c).name) := rv
    change Gs c rt F D (match tb.lookup x.c with
      | some true => hX (h δ1)
      | some false => some (.ex x δ1)
      | none => none) at q
    cases hl : tb.lookup x.c with
    | none => rw [hl] at q; exact q.elim
    | some b =>
      rw [hl] at q
      refine ⟨b, hK ▸ htb _ (look_tb hl), fun hb2 a na => ?_, fun hb2 => ?_⟩
      · subst hb2
        simp only at q
        refine ⟨F1, δ1, E1, ?_⟩
        cases hh : h δ1 with
        | none => rw [hh] at q; exact q.elim
        | some r2 =>
          rw [hh] at q
          cases r2 with
          | nx δ2 => exact fun σ2 F2 H2 s2 E2 => q _ F2 H2 (sf.trans s2) E2
          | brk δ2 => exact fun σ2 F2 H2 s2 E2 => q _ F2 H2 (sf.trans s2) E2
          | ct δ2 => exact fun σ2 F2 H2 s2 E2 => q _ F2 H2 (sf.trans s2) E2
          | ret d δ2 => exact fun v σ2 F2 H2 E2 po => q v _ F2 H2 E2 po
          | ex y δ2 => exact q.elim
      · subst hb2
        exact q (.ref (He.ga c.K (excT x.c).name)) (.ref (He.ga c.K (excT x.c).name)) dx σ1 F1 H1 rfl sf E1 xr
  | _, _, _, .cons (tc := tc) (g := g) hc htb hsu r, q => by
    obtain rfl := xr.1
    obtain rfl : u = Value.ref (He.ga c.K (excT x.c).name) := rv
    change Gs c rt F D (match tc.lookup x.c with
      | some true => hndO i (g x (δ1.set i (some .xv)))
      | some false => pickV i x tb h δ1 _
      | none => none) at q
    cases hl : tc.lookup x.c with
    | none => rw [hl] at q; exact q.elim
    | some b =>
      rw [hl] at q
      refine ⟨b, hK ▸ htb _ (look_tb hl), fun hb2 a na => ?_, fun hb2 => ?_⟩
      · subst hb2
        simp only at q
        refine ⟨x, F1, rfl, look_tb hl, fun H2 => xr, F1, δ1.set i (some .xv), EnvOk.hc_in E1 hi, ?_⟩
        cases hh : g x (δ1.set i (some .xv)) with
        | none => rw [hh] at q; exact q.elim
        | some r2 =>
          rw [hh] at q
          cases r2 with
          | nx δ2 => exact fun σ2 F2 H2 s2 E2 => q _ F2 H2 (sf.trans s2) (EnvOk.hc_out E1 E2 hi)
          | brk δ2 => exact fun σ2 F2 H2 s2 E2 => q _ F2 H2 (sf.trans s2) (EnvOk.hc_out E1 E2 hi)
          | ct δ2 => exact fun σ2 F2 H2 s2 E2 => q _ F2 H2 (sf.trans s2) (EnvOk.hc_out E1 E2 hi)
          | ret d δ2 => exact fun v σ2 F2 H2 E2 po => q v _ F2 H2 (EnvOk.hc_out E1 E2 hi) po
          | ex y δ2 => exact q.elim
      · subst hb2
        exact pickV_ok (cls := .ref (He.ga c.K (excT x.c).name)) (u := Value.ref (He.ga c.K (excT x.c).name)) hK hi rfl sf E1 xr r q
def HdsF (X : Cx) (c : Cp) (rt : Ty) (i : Nat) (n : Str) (tb : List (Nat × Bool)) (h : So) (hds : List ExceptHandler) (l2 : List Cls2) : Prop := ∃ cz l, HdsW X c rt i n tb cz h hds l l2
theorem st_tryV {i : Nat} {n : Str} {body : List Stmt} {h₀ : ExceptHandler} {hds : List ExceptHandler} {l2 : List Cls2} {g h : So} {tb : List (Nat × Bool)}
    (hs : X.stack = X.env :: X.outer) (hf : X.env.frame = some X.env.locals) (lo : Lo X.N X.env.scope i n) (hln : X.env.kindOf n = some .local) (tk : Takes X c.W) (hK : X.K = c.K) (hi : i < c.Ks.length)
    (hb : ∀ (W : WX) (pn : List (Addr × Obj)) (xe : Value → Shared → Prop), Takes (X.tr pn xe) W → PassesOwn (model X.prog X.w) X.A X.env xe → PSs (X.tr pn xe) body (tS { c with W := W } rt g)) (hh : HdsF X c rt i n tb h (h₀ :: hds) l2) :
    PS X (.Try body (h₀ :: hds) [] [] pos) (tS c rt (sTryV g i l2 tb h)) := by
  obtain ⟨cz, l, hh⟩ := hh
  refine PS.imp (try_v hs hf lo.nd lo.n hln tk hb hh.toV) fun D σ H q => ?_
  obtain ⟨F, δ, E, q⟩ := q
  refine ⟨F, δ, E, ?_⟩
  change Gs c rt F D (match g δ with
    | some (.ex x δ1) => pickV i x tb h δ1 l2
    | r => r) at q
  cases hg : g δ with
  | none => rw [hg] at q; exact q
  | some r =>
    rw [hg] at q
    cases r with
    | nx δ1 => exact q
    | brk δ1 => exact q
    | ct δ1 => exact q
    | ret d δ1 => exact q
    | ex x δ1 => exact fun cls u dx σ1 F1 H1 rv sf E1 xr => pickV_ok hK hi rv sf E1 xr hh q
theorem st_vlast {i : Nat} {n xh : Str} {cz : Value} {b₀ : Stmt} {suite : List Stmt} {np pos' : Pos} {tb : List (Nat × Bool)} {h : So} (hc : Names X xh cz) (htb : ∀ q ∈ tb, PySem.W.exmOne c.K (.ref (He.ga c.K (excT q.1).name)) cz = some q.2)
    (hsu : ∀ (a : Addr) (oe : Obj) (pn : List (Addr × Obj)), PSs (X.suite a ((a, oe) :: pn)) (b₀ :: suite) (tS c.qt rt h)) : HdsF X c rt i n tb h [.ExceptHandler (some (.Name xh np)) none (b₀ :: suite) pos'] [] := ⟨cz, [], .last hc htb hsu⟩
theorem st_vcons {i : Nat} {n xh : Str} {cv : Value} {b₀ : Stmt} {suite : List Stmt} {np pos' : Pos} {hds : List ExceptHandler} {l2 : List Cls2} {tb tc : List (Nat × Bool)} {h : So} {g : Xd → So} (hc : Names X xh cv) (htb : ∀ q ∈ tc, PySem.W.exmOne c.K (.ref (He.ga c.K (excT q.1).name)) cv = some q.2)
    (hsu : ∀ (x : Xd) (a : Addr) (oe : Obj) (d : Option Addr) (pn : List (Addr × Obj)) (F0 : Hp), (x.c, true) ∈ tc → Zc (.ref (He.ga c.K (excT x.c).name)) d oe → (∃ vs, oe.data = .fields vs) → (∀ H1, XRep c.K F0 H1 x (.ref (He.ga c.K (excT x.c).name)) d) → PSs (X.suite a ((a, oe) :: pn)) (b₀ :: suite) (tS (c.hc i a F0) rt (g x)))
    (r : HdsF X c rt i n tb h hds l2) : HdsF X c rt i n tb h (.ExceptHandler (some (.Name xh np)) (some n) (b₀ :: suite) pos' :: hds) ((tc, g) :: l2) := by
  obtain ⟨cz, l, r⟩ := r
  exact ⟨cz, _, .cons hc htb hsu r⟩
end Ev

set_option maxHeartbeats 4000000
/-! Ev, part Xw: while as a function word; min of a list of numbers. -/
namespace Ev
open PySem PySem.Spec PyProof.Rows L2
variable {X : Cx} {c : Cp} {K : PySem.W.Frag} {F G H F' G' H' : Hp} {e : Expr} {pos : Pos} {rt : Ty} {fc : EF}
/-- at most n turns -/
def sWh (n : Nat) (fc : EF) (g : So) : So := whGo fc g n
theorem st_while' {body : List Stmt} {g : So} {n : Nat} (hp : PassesOwn (model X.prog X.w) X.A X.env X.xe) (hc : PT X e (tT c fc)) (hb : PSs X body (tS c rt g)) : PS X (.While e body [] pos) (tS c rt (sWh n fc g)) := st_while hp hc hb
def minOf : Int → List Int → Int
  | a, [] => a
  | a, b :: l => minOf (if b < a then b else a) l
theorem minOf_mem : ∀ (l : List Int) (a : Int), minOf a l ∈ a :: l
  | [], a => List.mem_cons_self ..
  | b :: l, a => by
    have := minOf_mem l (if b < a then b else a)
    unfold minOf
    rcases List.mem_cons.mp this with h | h
    · rw [h]
      split
      · exact List.mem_cons_of_mem _ (List.mem_cons_self ..)
      · exact List.mem_cons_self ..
    · exact List.mem_cons_of_mem _ (List.mem_cons_of_mem _ h)
theorem minOf_le : ∀ (l : List Int) (a : Int), ∀ y ∈ a :: l, minOf a l ≤ y
  | [], a, y, h => by rw [List.mem_singleton.mp h]; exact Int.le_refl _
  | b :: l, a, y, h => by
    unfold minOf
    have ih := minOf_le l (if b < a then b else a)
    have h0 := ih _ (List.mem_cons_self ..)
    rcases List.mem_cons.mp h with rfl | h
    · split at h0 <;> rename_i hc
      · rw [if_pos hc]; omega
      · rw [if_neg hc]; omega
    · rcases List.mem_cons.mp h with rfl | h
      · split at h0 <;> rename_i hc
        · rw [if_pos hc]; omega
        · rw [if_neg hc]; omega
      · exact ih y (List.mem_cons_of_mem _ h)
def minLD : List D → Option D
  | [.lst ds] => (intsOf ds).bind fun ns => match ns with
    | [] => none
    | a :: l => some (.int (minOf a l))
  | _ => none
theorem b_minL (hc : X.calm = true) (hK : X.K = c.K) : CallS X c (.builtin "min") [.bw] (.vw .fz) minLD := by
  refine ⟨_, cr_min hc, fun F H vs ds d Q s w e q => ?_⟩
  obtain ⟨d0, v, A, rfl, rfl, hx⟩ := view1 w
  cases d0 with
  | lst ds =>
    obtain ⟨ns, e1, e3⟩ := Option.bind_eq_some_iff.mp e
    obtain ⟨p, vs, rfl, hp, hi⟩ := hx.lstF rfl s
    have e2 := intsOf_isL hi e1
    subst e2
    cases ns with
    | nil => cases e3
    | cons a l =>
      cases e3
      refine ⟨p, a :: l, rfl, SqL.of hp, by simp, fun m hm hle => ?_⟩
      have : m = minOf a l := Int.le_antisymm (hle _ (minOf_mem l a)) (minOf_le l a m hm)
      rw [this]
      exact q _ F H (Up.refl s) ⟨[], Own.of_is (by simp only [Is])⟩
  | _ => cases e
end Ev

set_option maxHeartbeats 4000000
namespace Z
open PySem PySem.Spec PyProof.Rows L2 Ev
structure Fx (w : World) (K : PySem.W.Frag) (mg : Str → Option Value) : Prop where
  b_len : mg "len" = none
  b_int : mg "int" = none
  b_abs : mg "abs" = none
  b_range : mg "range" = none
  b_isinstance : mg "isinstance" = none
  b_bool : mg "bool" = none
  b_str : mg "str" = none
  b_tuple : mg "tuple" = none
  b_list : mg "list" = none
  b_zip : mg "zip" = none
  xo_Overfull : XoOk K mg 10
  xo_NoRunCycle : XoOk K mg 19
  g_HeldError : mg "HeldError" = some (.ref (He.ga K "HeldError"))
  m_HeldError : ∀ q ∈ ([(0, true), (1, true), (2, true), (3, true), (4, true), (5, true), (6, true), (7, true), (8, true), (9, true), (10, true), (11, true), (12, true), (13, true), (14, true), (15, true), (16, true), (17, true), (18, true), (19, true), (20, true), (21, true)] : List (Nat × Bool)), PySem.W.exmOne K (.ref (He.ga K (excT q.1).name)) (.ref (He.ga K "HeldError")) = some q.2
  xc : ∀ q ∈ ([(0, true), (1, true), (2, true), (3, true), (4, true), (5, true), (6, true), (7, true), (8, true), (9, true), (10, true), (11, true), (12, true), (13, true), (14, true), (15, true), (16, true), (17, true), (18, true), (19, true), (20, true), (21, true)] : List (Nat × Bool)), XCl K q.1
  g_LineError : mg "LineError" = some (.ref (He.ga K "LineError"))
  ki_LineError : ∀ q ∈ ([(0, true), (1, true), (2, true), (3, true), (4, true), (5, true), (6, true), (7, true), (8, false), (9, false), (10, false), (11, false), (12, false), (13, false), (14, false), (15, false), (16, false), (17, false), (18, false), (19, false), (20, false), (21, false)] : List (Nat × Bool)), PySem.W.kitOne K (.ref (He.ga K (excT q.1).name)) (.ref (He.ga K "LineError")) = some q.2
  g_BadForm : mg "BadForm" = some (.ref (He.ga K "BadForm"))
  ki_BadForm : ∀ q ∈ ([(0, false), (1, true), (2, false), (3, false), (4, false), (5, false), (6, false), (7, false), (8, false), (9, false), (10, false), (11, false), (12, false), (13, false), (14, false), (15, false), (16, false), (17, false), (18, false), (19, false), (20, false), (21, false)] : List (Nat × Bool)), PySem.W.kitOne K (.ref (He.ga K (excT q.1).name)) (.ref (He.ga K "BadForm")) = some q.2
  g_Misplaced : mg "Misplaced" = some (.ref (He.ga K "Misplaced"))
  ki_Misplaced : ∀ q ∈ ([(0, false), (1, false), (2, true), (3, false), (4, false), (5, false), (6, false), (7, false), (8, false), (9, false), (10, false), (11, false), (12, false), (13, false), (14, false), (15, false), (16, false), (17, false), (18, false), (19, false), (20, false), (21, false)] : List (Nat × Bool)), PySem.W.kitOne K (.ref (He.ga K (excT q.1).name)) (.ref (He.ga K "Misplaced")) = some q.2
  g_Duplicate : mg "Duplicate" = some (.ref (He.ga K "Duplicate"))
  ki_Duplicate : ∀ q ∈ ([(0, false), (1, false), (2, false), (3, true), (4, false), (5, false), (6, false), (7, false), (8, false), (9, false), (10, false), (11, false), (12, false), (13, false), (14, false), (15, false), (16, false), (17, false), (18, false), (19, false), (20, false), (21, false)] : List (Nat × Bool)), PySem.W.kitOne K (.ref (He.ga K (excT q.1).name)) (.ref (He.ga K "Duplicate")) = some q.2
  g_Unknown : mg "Unknown" = some (.ref (He.ga K "Unknown"))
  ki_Unknown : ∀ q ∈ ([(0, false), (1, false), (2, false), (3, false), (4, true), (5, false), (6, false), (7, false), (8, false), (9, false), (10, false), (11, false), (12, false), (13, false), (14, false), (15, false), (16, false), (17, false), (18, false), (19, false), (20, false), (21, false)] : List (Nat × Bool)), PySem.W.kitOne K (.ref (He.ga K (excT q.1).name)) (.ref (He.ga K "Unknown")) = some q.2
  g_NotNested : mg "NotNested" = some (.ref (He.ga K "NotNested"))
  ki_NotNested : ∀ q ∈ ([(0, false), (1, false), (2, false), (3, false), (4, false), (5, true), (6, false), (7, false), (8, false), (9, false), (10, false), (11, false), (12, false), (13, false), (14, false), (15, false), (16, false), (17, false), (18, false), (19, false), (20, false), (21, false)] : List (Nat × Bool)), PySem.W.kitOne K (.ref (He.ga K (excT q.1).name)) (.ref (He.ga K "NotNested")) = some q.2
  g_TooMany : mg "TooMany" = some (.ref (He.ga K "TooMany"))
  ki_TooMany : ∀ q ∈ ([(0, false), (1, false), (2, false), (3, false), (4, false), (5, false), (6, true), (7, false), (8, false), (9, false), (10, false), (11, false), (12, false), (13, false), (14, false), (15, false), (16, false), (17, false), (18, false), (19, false), (20, false), (21, false)] : List (Nat × Bool)), PySem.W.kitOne K (.ref (He.ga K (excT q.1).name)) (.ref (He.ga K "TooMany")) = some q.2
  g_TooLong : mg "TooLong" = some (.ref (He.ga K "TooLong"))
  ki_TooLong : ∀ q ∈ ([(0, false), (1, false), (2, false), (3, false), (4, false), (5, false), (6, false), (7, true), (8, false), (9, false), (10, false), (11, false), (12, false), (13, false), (14, false), (15, false), (16, false), (17, false), (18, false), (19, false), (20, false), (21, false)] : List (Nat × Bool)), PySem.W.kitOne K (.ref (He.ga K (excT q.1).name)) (.ref (He.ga K "TooLong")) = some q.2
  g_NoName : mg "NoName" = some (.ref (He.ga K "NoName"))
  ki_NoName : ∀ q ∈ ([(0, false), (1, false), (2, false), (3, false), (4, false), (5, false), (6, false), (7, false), (8, true), (9, false), (10, false), (11, false), (12, false), (13, false), (14, false), (15, false), (16, false), (17, false), (18, false), (19, false), (20, false), (21, false)] : List (Nat × Bool)), PySem.W.kitOne K (.ref (He.ga K (excT q.1).name)) (.ref (He.ga K "NoName")) = some q.2
  g_Repeated : mg "Repeated" = some (.ref (He.ga K "Repeated"))
  ki_Repeated : ∀ q ∈ ([(0, false), (1, false), (2, false), (3, false), (4, false), (5, false), (6, false), (7, false), (8, false), (9, true), (10, false), (11, false), (12, false), (13, false), (14, false), (15, false), (16, false), (17, false), (18, false), (19, false), (20, false), (21, false)] : List (Nat × Bool)), PySem.W.kitOne K (.ref (He.ga K (excT q.1).name)) (.ref (He.ga K "Repeated")) = some q.2
  g_Overfull : mg "Overfull" = some (.ref (He.ga K "Overfull"))
  ki_Overfull : ∀ q ∈ ([(0, false), (1, false), (2, false), (3, false), (4, false), (5, false), (6, false), (7, false), (8, false), (9, false), (10, true), (11, false), (12, false), (13, false), (14, false), (15, false), (16, false), (17, false), (18, false), (19, false), (20, false), (21, false)] : List (Nat × Bool)), PySem.W.kitOne K (.ref (He.ga K (excT q.1).name)) (.ref (He.ga K "Overfull")) = some q.2
  g_WrongMove : mg "WrongMove" = some (.ref (He.ga K "WrongMove"))
  ki_WrongMove : ∀ q ∈ ([(0, false), (1, false), (2, false), (3, false), (4, false), (5, false), (6, false), (7, false), (8, false), (9, false), (10, false), (11, true), (12, false), (13, false), (14, false), (15, false), (16, false), (17, false), (18, false), (19, false), (20, false), (21, false)] : List (Nat × Bool)), PySem.W.kitOne K (.ref (He.ga K (excT q.1).name)) (.ref (He.ga K "WrongMove")) = some q.2
  g_BadRun : mg "BadRun" = some (.ref (He.ga K "BadRun"))
  ki_BadRun : ∀ q ∈ ([(0, false), (1, false), (2, false), (3, false), (4, false), (5, false), (6, false), (7, false), (8, false), (9, false), (10, false), (11, false), (12, true), (13, false), (14, false), (15, false), (16, false), (17, false), (18, false), (19, false), (20, false), (21, false)] : List (Nat × Bool)), PySem.W.kitOne K (.ref (He.ga K (excT q.1).name)) (.ref (He.ga K "BadRun")) = some q.2
  g_NoThread : mg "NoThread" = some (.ref (He.ga K "NoThread"))
  ki_NoThread : ∀ q ∈ ([(0, false), (1, false), (2, false), (3, false), (4, false), (5, false), (6, false), (7, false), (8, false), (9, false), (10, false), (11, false), (12, false), (13, true), (14, false), (15, false), (16, false), (17, false), (18, false), (19, false), (20, false), (21, false)] : List (Nat × Bool)), PySem.W.kitOne K (.ref (He.ga K (excT q.1).name)) (.ref (He.ga K "NoThread")) = some q.2
  g_MustWait : mg "MustWait" = some (.ref (He.ga K "MustWait"))
  ki_MustWait : ∀ q ∈ ([(0, false), (1, false), (2, false), (3, false), (4, false), (5, false), (6, false), (7, false), (8, false), (9, false), (10, false), (11, false), (12, false), (13, false), (14, true), (15, false), (16, false), (17, false), (18, false), (19, false), (20, false), (21, false)] : List (Nat × Bool)), PySem.W.kitOne K (.ref (He.ga K (excT q.1).name)) (.ref (He.ga K "MustWait")) = some q.2
  g_Refused : mg "Refused" = some (.ref (He.ga K "Refused"))
  ki_Refused : ∀ q ∈ ([(0, false), (1, false), (2, false), (3, false), (4, false), (5, false), (6, false), (7, false), (8, false), (9, false), (10, false), (11, false), (12, false), (13, false), (14, false), (15, true), (16, false), (17, false), (18, false), (19, false), (20, false), (21, false)] : List (Nat × Bool)), PySem.W.kitOne K (.ref (He.ga K (excT q.1).name)) (.ref (He.ga K "Refused")) = some q.2
  g_Deadlocked : mg "Deadlocked" = some (.ref (He.ga K "Deadlocked"))
  ki_Deadlocked : ∀ q ∈ ([(0, false), (1, false), (2, false), (3, false), (4, false), (5, false), (6, false), (7, false), (8, false), (9, false), (10, false), (11, false), (12, false), (13, false), (14, false), (15, false), (16, true), (17, false), (18, false), (19, false), (20, false), (21, false)] : List (Nat × Bool)), PySem.W.kitOne K (.ref (He.ga K (excT q.1).name)) (.ref (He.ga K "Deadlocked")) = some q.2
  g_NoRequest : mg "NoRequest" = some (.ref (He.ga K "NoRequest"))
  ki_NoRequest : ∀ q ∈ ([(0, false), (1, false), (2, false), (3, false), (4, false), (5, false), (6, false), (7, false), (8, false), (9, false), (10, false), (11, false), (12, false), (13, false), (14, false), (15, false), (16, false), (17, true), (18, false), (19, false), (20, false), (21, false)] : List (Nat × Bool)), PySem.W.kitOne K (.ref (He.ga K (excT q.1).name)) (.ref (He.ga K "NoRequest")) = some q.2
  g_NoContext : mg "NoContext" = some (.ref (He.ga K "NoContext"))
  ki_NoContext : ∀ q ∈ ([(0, false), (1, false), (2, false), (3, false), (4, false), (5, false), (6, false), (7, false), (8, false), (9, false), (10, false), (11, false), (12, false), (13, false), (14, false), (15, false), (16, false), (17, false), (18, true), (19, false), (20, false), (21, false)] : List (Nat × Bool)), PySem.W.kitOne K (.ref (He.ga K (excT q.1).name)) (.ref (He.ga K "NoContext")) = some q.2
  g_NoRunCycle : mg "NoRunCycle" = some (.ref (He.ga K "NoRunCycle"))
  ki_NoRunCycle : ∀ q ∈ ([(0, false), (1, false), (2, false), (3, false), (4, false), (5, false), (6, false), (7, false), (8, false), (9, false), (10, false), (11, false), (12, false), (13, false), (14, false), (15, false), (16, false), (17, false), (18, false), (19, true), (20, false), (21, false)] : List (Nat × Bool)), PySem.W.kitOne K (.ref (He.ga K (excT q.1).name)) (.ref (He.ga K "NoRunCycle")) = some q.2
  g_Clash : mg "Clash" = some (.ref (He.ga K "Clash"))
  ki_Clash : ∀ q ∈ ([(0, false), (1, false), (2, false), (3, false), (4, false), (5, false), (6, false), (7, false), (8, false), (9, false), (10, false), (11, false), (12, false), (13, false), (14, false), (15, false), (16, false), (17, false), (18, false), (19, false), (20, true), (21, false)] : List (Nat × Bool)), PySem.W.kitOne K (.ref (He.ga K (excT q.1).name)) (.ref (He.ga K "Clash")) = some q.2
  g_NoLockOrder : mg "NoLockOrder" = some (.ref (He.ga K "NoLockOrder"))
  ki_NoLockOrder : ∀ q ∈ ([(0, false), (1, false), (2, false), (3, false), (4, false), (5, false), (6, false), (7, false), (8, false), (9, false), (10, false), (11, false), (12, false), (13, false), (14, false), (15, false), (16, false), (17, false), (18, false), (19, false), (20, false), (21, true)] : List (Nat × Bool)), PySem.W.kitOne K (.ref (He.ga K (excT q.1).name)) (.ref (He.ga K "NoLockOrder")) = some q.2
  kt_ValueError : ∀ q ∈ ([(0, true), (1, true), (2, true), (3, true), (4, true), (5, true), (6, true), (7, true), (8, true), (9, true), (10, true), (11, true), (12, true), (13, true), (14, true), (15, true), (16, true), (17, true), (18, true), (19, true), (20, true), (21, true)] : List (Nat × Bool)), PySem.W.kitOne K (.ref (He.ga K (excT q.1).name)) (.type "ValueError") = some q.2
  b_ValueError : mg "ValueError" = none
  m_LineError : ∀ q ∈ ([(0, true), (1, true), (2, true), (3, true), (4, true), (5, true), (6, true), (7, true), (8, false), (9, false), (10, false), (11, false), (12, false), (13, false), (14, false), (15, false), (16, false), (17, false), (18, false), (19, false), (20, false), (21, false)] : List (Nat × Bool)), PySem.W.exmOne K (.ref (He.ga K (excT q.1).name)) (.ref (He.ga K "LineError")) = some q.2
  m_NoLockOrder : ∀ q ∈ ([(0, false), (1, false), (2, false), (3, false), (4, false), (5, false), (6, false), (7, false), (8, false), (9, false), (10, false), (11, false), (12, false), (13, false), (14, false), (15, false), (16, false), (17, false), (18, false), (19, false), (20, false), (21, true)] : List (Nat × Bool)), PySem.W.exmOne K (.ref (He.ga K (excT q.1).name)) (.ref (He.ga K "NoLockOrder")) = some q.2
  m_Clash : ∀ q ∈ ([(0, false), (1, false), (2, false), (3, false), (4, false), (5, false), (6, false), (7, false), (8, false), (9, false), (10, false), (11, false), (12, false), (13, false), (14, false), (15, false), (16, false), (17, false), (18, false), (19, false), (20, true), (21, false)] : List (Nat × Bool)), PySem.W.exmOne K (.ref (He.ga K (excT q.1).name)) (.ref (He.ga K "Clash")) = some q.2
  m_NoContext : ∀ q ∈ ([(0, false), (1, false), (2, false), (3, false), (4, false), (5, false), (6, false), (7, false), (8, false), (9, false), (10, false), (11, false), (12, false), (13, false), (14, false), (15, false), (16, false), (17, false), (18, true), (19, false), (20, false), (21, false)] : List (Nat × Bool)), PySem.W.exmOne K (.ref (He.ga K (excT q.1).name)) (.ref (He.ga K "NoContext")) = some q.2
  m_NoRequest : ∀ q ∈ ([(0, false), (1, false), (2, false), (3, false), (4, false), (5, false), (6, false), (7, false), (8, false), (9, false), (10, false), (11, false), (12, false), (13, false), (14, false), (15, false), (16, false), (17, true), (18, false), (19, false), (20, false), (21, false)] : List (Nat × Bool)), PySem.W.exmOne K (.ref (He.ga K (excT q.1).name)) (.ref (He.ga K "NoRequest")) = some q.2
  m_Deadlocked : ∀ q ∈ ([(0, false), (1, false), (2, false), (3, false), (4, false), (5, false), (6, false), (7, false), (8, false), (9, false), (10, false), (11, false), (12, false), (13, false), (14, false), (15, false), (16, true), (17, false), (18, false), (19, false), (20, false), (21, false)] : List (Nat × Bool)), PySem.W.exmOne K (.ref (He.ga K (excT q.1).name)) (.ref (He.ga K "Deadlocked")) = some q.2
  m_Refused : ∀ q ∈ ([(0, false), (1, false), (2, false), (3, false), (4, false), (5, false), (6, false), (7, false), (8, false), (9, false), (10, false), (11, false), (12, false), (13, false), (14, false), (15, true), (16, false), (17, false), (18, false), (19, false), (20, false), (21, false)] : List (Nat × Bool)), PySem.W.exmOne K (.ref (He.ga K (excT q.1).name)) (.ref (He.ga K "Refused")) = some q.2
  m_MustWait : ∀ q ∈ ([(0, false), (1, false), (2, false), (3, false), (4, false), (5, false), (6, false), (7, false), (8, false), (9, false), (10, false), (11, false), (12, false), (13, false), (14, true), (15, false), (16, false), (17, false), (18, false), (19, false), (20, false), (21, false)] : List (Nat × Bool)), PySem.W.exmOne K (.ref (He.ga K (excT q.1).name)) (.ref (He.ga K "MustWait")) = some q.2
  m_NoThread : ∀ q ∈ ([(0, false), (1, false), (2, false), (3, false), (4, false), (5, false), (6, false), (7, false), (8, false), (9, false), (10, false), (11, false), (12, false), (13, true), (14, false), (15, false), (16, false), (17, false), (18, false), (19, false), (20, false), (21, false)] : List (Nat × Bool)), PySem.W.exmOne K (.ref (He.ga K (excT q.1).name)) (.ref (He.ga K "NoThread")) = some q.2
  m_BadRun : ∀ q ∈ ([(0, false), (1, false), (2, false), (3, false), (4, false), (5, false), (6, false), (7, false), (8, false), (9, false), (10, false), (11, false), (12, true), (13, false), (14, false), (15, false), (16, false), (17, false), (18, false), (19, false), (20, false), (21, false)] : List (Nat × Bool)), PySem.W.exmOne K (.ref (He.ga K (excT q.1).name)) (.ref (He.ga K "BadRun")) = some q.2
  m_WrongMove : ∀ q ∈ ([(0, false), (1, false), (2, false), (3, false), (4, false), (5, false), (6, false), (7, false), (8, false), (9, false), (10, false), (11, true), (12, false), (13, false), (14, false), (15, false), (16, false), (17, false), (18, false), (19, false), (20, false), (21, false)] : List (Nat × Bool)), PySem.W.exmOne K (.ref (He.ga K (excT q.1).name)) (.ref (He.ga K "WrongMove")) = some q.2
  m_Repeated : ∀ q ∈ ([(0, false), (1, false), (2, false), (3, false), (4, false), (5, false), (6, false), (7, false), (8, false), (9, true), (10, false), (11, false), (12, false), (13, false), (14, false), (15, false), (16, false), (17, false), (18, false), (19, false), (20, false), (21, false)] : List (Nat × Bool)), PySem.W.exmOne K (.ref (He.ga K (excT q.1).name)) (.ref (He.ga K "Repeated")) = some q.2
  m_NoName : ∀ q ∈ ([(0, false), (1, false), (2, false), (3, false), (4, false), (5, false), (6, false), (7, false), (8, true), (9, false), (10, false), (11, false), (12, false), (13, false), (14, false), (15, false), (16, false), (17, false), (18, false), (19, false), (20, false), (21, false)] : List (Nat × Bool)), PySem.W.exmOne K (.ref (He.ga K (excT q.1).name)) (.ref (He.ga K "NoName")) = some q.2
abbrev S_law_numbers : Scope := defScope (top 25)
abbrev N_law_numbers : List Str := ["script", "at", "many", "cell", "skip", "size", "found", "k", "mixed"]
abbrev K_law_numbers : List Kd := [.ve .fz, .ve .fz, .ve .fz, .ve .fz, .ve .fz, .ve .fz, .ow (.lst .fz), .ve .fz, .ve .fz]
theorem sc_law_numbers : FnScope N_law_numbers ["script", "at", "many"] S_law_numbers := ⟨rfl, rfl, rfl, by decide +kernel, rfl, by decide +kernel, by decide +kernel⟩
theorem nd_law_numbers : N_law_numbers.Nodup := sc_law_numbers.nd
theorem nm_law_numbers_0 : Nm N_law_numbers S_law_numbers 0 "script" := nm_by (by kernel_rfl)
theorem lo_law_numbers_0 : Lo N_law_numbers S_law_numbers 0 "script" := lo_by (by kernel_rfl)
theorem nm_law_numbers_1 : Nm N_law_numbers S_law_numbers 1 "at" := nm_by (by kernel_rfl)
theorem lo_law_numbers_1 : Lo N_law_numbers S_law_numbers 1 "at" := lo_by (by kernel_rfl)
theorem nm_law_numbers_2 : Nm N_law_numbers S_law_numbers 2 "many" := nm_by (by kernel_rfl)
theorem lo_law_numbers_2 : Lo N_law_numbers S_law_numbers 2 "many" := lo_by (by kernel_rfl)
theorem nm_law_numbers_3 : Nm N_law_numbers S_law_numbers 3 "cell" := nm_by (by kernel_rfl)
theorem lo_law_numbers_3 : Lo N_law_numbers S_law_numbers 3 "cell" := lo_by (by kernel_rfl)
theorem nm_law_numbers_4 : Nm N_law_numbers S_law_numbers 4 "skip" := nm_by (by kernel_rfl)
theorem lo_law_numbers_4 : Lo N_law_numbers S_law_numbers 4 "skip" := lo_by (by kernel_rfl)
theorem nm_law_numbers_5 : Nm N_law_numbers S_law_numbers 5 "size" := nm_by (by kernel_rfl)
theorem lo_law_numbers_5 : Lo N_law_numbers S_law_numbers 5 "size" := lo_by (by kernel_rfl)
theorem nm_law_numbers_6 : Nm N_law_numbers S_law_numbers 6 "found" := nm_by (by kernel_rfl)
theorem lo_law_numbers_6 : Lo N_law_numbers S_law_numbers 6 "found" := lo_by (by kernel_rfl)
theorem nm_law_numbers_7 : Nm N_law_numbers S_law_numbers 7 "k" := nm_by (by kernel_rfl)
theorem lo_law_numbers_7 : Lo N_law_numbers S_law_numbers 7 "k" := lo_by (by kernel_rfl)
theorem nm_law_numbers_8 : Nm N_law_numbers S_law_numbers 8 "mixed" := nm_by (by kernel_rfl)
theorem lo_law_numbers_8 : Lo N_law_numbers S_law_numbers 8 "mixed" := lo_by (by kernel_rfl)
def g_law_numbers : So := (sSeq (sSet 3 (fC (.int 0)))
  (sSeq (sSet 4 (fC (.int 0)))
  (sSeq (sIf (fCmp (op pLt) (evVar 1) (fBi lenD (lCons (evVar 0) lNil))) (sSeq (sSet 3 (fIx (evVar 0) (evVar 1)))
  sNx) (sSeq (sIf (fAnd (fCmp (op pGt) (fBi lenD (lCons (evVar 0) lNil)) (fC (.int 0))) (fCmp (op pLt) (fBi absD (lCons (fIx (evVar 0) (fBin modD (fBi intD (lCons (evVar 1) lNil)) (fBi lenD (lCons (evVar 0) lNil)))) lNil)) (fBin powD (fC (.int 10)) (fC (.int 18))))) (sSeq (sSet 3 (fIx (evVar 0) (fBin modD (fBi intD (lCons (evVar 1) lNil)) (fBi lenD (lCons (evVar 0) lNil)))))
  (sSeq (sSet 4 (fBin mulD (fC (.int 60)) (evVar 1)))
  sNx)) sNx)
  sNx))
  (sSeq (sSet 5 (fBin addD (fBi absD (lCons (evVar 3) lNil)) (fBi intD (lCons (fCmp (op pLt) (evVar 3) (fC (.int 0))) lNil))))
  (sSeq (sSet 6 (fLst lNil))
  (sSeq (sIf (fCmp (op pLt) (evVar 5) (fBin powD (fC (.int 10)) (fC (.int 18)))) (sSeq (sFor (.nm 7) (iRng1 (evVar 2)) (sSeq (sSet 8 (fBin modD (fBi intD (lCons (fBin mulD (evVar 5) (fBin addD (fC (.int 48271)) (fBin mulD (fC (.int 69621)) (fBin addD (evVar 7) (evVar 4))))) lNil)) (fC (.int 2147483647))))
  (sSeq (sApp 6 (fBin modD (fBi intD (lCons (fBin mulD (fBin mulD (evVar 8) (evVar 8)) (fC (.int 16807))) lNil)) (fC (.int 2147483629))))
  sNx)))
  (sSeq (sRetOw 6)
  sNx)) sNx)
  (sSeq (sFor (.nm 7) (iRng1 (evVar 2)) (sSeq (sApp 6 (fBin modD (fBi intD (lCons (evVar 5) lNil)) (fC (.int 100))))
  (sSeq (sSet 5 (fBin divD (evVar 5) (fC (.int 100))))
  sNx)))
  (sSeq (sRetOw 6)
  sNx))))))))
abbrev sg_law_numbers : Sig := ⟨[.fz, .fz, .fz], .fr (.lst .fz)⟩
def φ_law_numbers : Fn := defF (.fr (.lst .fz)) 9 g_law_numbers
theorem body_law_numbers {P : Program} {w : World} {K : PySem.W.Frag} {mg : Str → Option Value} {base : Heap} {f : Addr} (T : Fx w K mg) : BodyOk P w K mg base N_law_numbers "_law_numbers" S_law_numbers f 0 K_law_numbers (.fr (.lst .fz)) (defBody (top 25)) g_law_numbers := by
  intro cdv A outer s H E c hr hK hKs tk
  obtain ⟨K', Ks', F0, G, W⟩ := c
  cases hK
  cases hKs
  have hun := hr.un
  have hu1 : (A.deeper (envOfC "_law_numbers" S_law_numbers s.heap.objs.size f cdv)).units + 1 < cLine := by omega
  have hu64 : (A.deeper (envOfC "_law_numbers" S_law_numbers s.heap.objs.size f cdv)).units + 64 < cLine := by omega
  have hu65 : (A.deeper (envOfC "_law_numbers" S_law_numbers s.heap.objs.size f cdv)).units + 65 < cLine := by omega
  refine ss_cons' ?_ ?_
  · refine e_set' (ta := .vw .fz) (i := 3) lo_law_numbers_3 (by rfl) ?_ (by rfl) (by exact .inl rfl) (by rfl)
    exact e_int
  refine ss_cons' ?_ ?_
  · refine e_set' (ta := .vw .fz) (i := 4) lo_law_numbers_4 (by rfl) ?_ (by rfl) (by exact .inl rfl) (by rfl)
    exact e_int
  refine ss_cons' ?_ ?_
  · refine st_if' ?_ ?_ ?_
    · refine t_cmp' (ta := .vw .fz) (tb := .vw .fz) (o_cmpI op_lt) ?_ ?_ (by rfl) (by rfl) (by rfl)
      · refine e_var (i := 1) (k := .ve .fz) nm_law_numbers_1 (by rfl)
      refine e_bi ⟨gl_by (by kernel_rfl), T.b_len⟩ (b_len (by rfl)) ?_ (by rfl) (by decide +kernel) (by decide +kernel) (by rfl) (by rfl)
      refine a_cons' (o := .bw) (ta := .vw .fz) ?_ ?_ (by rfl) (by rfl)
      · refine e_var (i := 0) (k := .ve .fz) nm_law_numbers_0 (by rfl)
      exact a_nil'
    · refine ss_cons' ?_ ?_
      · refine e_set' (ta := .vw .fz) (i := 3) lo_law_numbers_3 (by rfl) ?_ (by rfl) (by exact .inl rfl) (by rfl)
        refine s_ix' (o := .fz) (tb := .vw .fz) ?_ ?_ (by rfl) (by intro _ _; rfl) (by intro _ _; rfl) hu1 (by rfl) (by rfl)
        · refine e_var (i := 0) (k := .ve .fz) nm_law_numbers_0 (by rfl)
        refine e_var (i := 1) (k := .ve .fz) nm_law_numbers_1 (by rfl)
      exact ss_nil'
    refine ss_cons' ?_ ?_
    · refine st_if' ?_ ?_ ?_
      · refine PW.pt ?_
        refine w_and' ?_ ?_
        · refine t_cmp' (ta := .vw .fz) (tb := .vw .fz) (o_cmpI op_gt) ?_ ?_ (by rfl) (by rfl) (by rfl)
          · refine e_bi ⟨gl_by (by kernel_rfl), T.b_len⟩ (b_len (by rfl)) ?_ (by rfl) (by decide +kernel) (by decide +kernel) (by rfl) (by rfl)
            refine a_cons' (o := .bw) (ta := .vw .fz) ?_ ?_ (by rfl) (by rfl)
            · refine e_var (i := 0) (k := .ve .fz) nm_law_numbers_0 (by rfl)
            exact a_nil'
          exact e_int
        refine w_one ?_
        refine t_cmp' (ta := .vw .fz) (tb := .vw .fz) (o_cmpI op_lt) ?_ ?_ (by rfl) (by rfl) (by rfl)
        · refine e_bi ⟨gl_by (by kernel_rfl), T.b_abs⟩ (b_abs) ?_ (by rfl) (by decide +kernel) (by decide +kernel) (by rfl) (by rfl)
          refine a_cons' (o := .bw) (ta := .vw .fz) ?_ ?_ (by rfl) (by rfl)
          · refine s_ix' (o := .fz) (tb := .vw .fz) ?_ ?_ (by rfl) (by intro _ _; rfl) (by intro _ _; rfl) hu1 (by rfl) (by rfl)
            · refine e_var (i := 0) (k := .ve .fz) nm_law_numbers_0 (by rfl)
            refine s_bin' (ta := .vw .fz) (tb := .vw .fz) o_mod ?_ ?_ (by rfl) (by rfl)
            · refine e_ty ⟨gl_by (by kernel_rfl), T.b_int⟩ (b_int) ?_ (by rfl) (by decide +kernel) (by decide +kernel) (by rfl) (by rfl)
              refine a_cons' (o := .bw) (ta := .vw .fz) ?_ ?_ (by rfl) (by rfl)
              · refine e_var (i := 1) (k := .ve .fz) nm_law_numbers_1 (by rfl)
              exact a_nil'
            refine e_bi ⟨gl_by (by kernel_rfl), T.b_len⟩ (b_len (by rfl)) ?_ (by rfl) (by decide +kernel) (by decide +kernel) (by rfl) (by rfl)
            refine a_cons' (o := .bw) (ta := .vw .fz) ?_ ?_ (by rfl) (by rfl)
            · refine e_var (i := 0) (k := .ve .fz) nm_law_numbers_0 (by rfl)
            exact a_nil'
          exact a_nil'
        refine s_bin' (ta := .vw .fz) (tb := .vw .fz) o_pow ?_ ?_ (by rfl) (by rfl)
        · exact e_int
        exact e_int
      · refine ss_cons' ?_ ?_
        · refine e_set' (ta := .vw .fz) (i := 3) lo_law_numbers_3 (by rfl) ?_ (by rfl) (by exact .inl rfl) (by rfl)
          refine s_ix' (o := .fz) (tb := .vw .fz) ?_ ?_ (by rfl) (by intro _ _; rfl) (by intro _ _; rfl) hu1 (by rfl) (by rfl)
          · refine e_var (i := 0) (k := .ve .fz) nm_law_numbers_0 (by rfl)
          refine s_bin' (ta := .vw .fz) (tb := .vw .fz) o_mod ?_ ?_ (by rfl) (by rfl)
          · refine e_ty ⟨gl_by (by kernel_rfl), T.b_int⟩ (b_int) ?_ (by rfl) (by decide +kernel) (by decide +kernel) (by rfl) (by rfl)
            refine a_cons' (o := .bw) (ta := .vw .fz) ?_ ?_ (by rfl) (by rfl)
            · refine e_var (i := 1) (k := .ve .fz) nm_law_numbers_1 (by rfl)
            exact a_nil'
          refine e_bi ⟨gl_by (by kernel_rfl), T.b_len⟩ (b_len (by rfl)) ?_ (by rfl) (by decide +kernel) (by decide +kernel) (by rfl) (by rfl)
          refine a_cons' (o := .bw) (ta := .vw .fz) ?_ ?_ (by rfl) (by rfl)
          · refine e_var (i := 0) (k := .ve .fz) nm_law_numbers_0 (by rfl)
          exact a_nil'
        refine ss_cons' ?_ ?_
        · refine e_set' (ta := .vw .fz) (i := 4) lo_law_numbers_4 (by rfl) ?_ (by rfl) (by exact .inl rfl) (by rfl)
          refine s_bin' (ta := .vw .fz) (tb := .vw .fz) o_mul ?_ ?_ (by rfl) (by rfl)
          · exact e_int
          refine e_var (i := 1) (k := .ve .fz) nm_law_numbers_1 (by rfl)
        exact ss_nil'
      exact ss_nil'
    exact ss_nil'
  refine ss_cons' ?_ ?_
  · refine e_set' (ta := .vw .fz) (i := 5) lo_law_numbers_5 (by rfl) ?_ (by rfl) (by exact .inl rfl) (by rfl)
    refine s_bin' (ta := .vw .fz) (tb := .vw .fz) o_add ?_ ?_ (by rfl) (by rfl)
    · refine e_bi ⟨gl_by (by kernel_rfl), T.b_abs⟩ (b_abs) ?_ (by rfl) (by decide +kernel) (by decide +kernel) (by rfl) (by rfl)
      refine a_cons' (o := .bw) (ta := .vw .fz) ?_ ?_ (by rfl) (by rfl)
      · refine e_var (i := 3) (k := .ve .fz) nm_law_numbers_3 (by rfl)
      exact a_nil'
    refine e_ty ⟨gl_by (by kernel_rfl), T.b_int⟩ (b_int) ?_ (by rfl) (by decide +kernel) (by decide +kernel) (by rfl) (by rfl)
    refine a_cons' (o := .bw) (ta := .vw .fz) ?_ ?_ (by rfl) (by rfl)
    · refine s_cmp' (ta := .vw .fz) (tb := .vw .fz) (o_cmpI op_lt) ?_ ?_ (by rfl) (by rfl) (by rfl)
      · refine e_var (i := 3) (k := .ve .fz) nm_law_numbers_3 (by rfl)
      exact e_int
    exact a_nil'
  refine ss_cons' ?_ ?_
  · refine e_own' (i := 6) lo_law_numbers_6 (by rfl) ?_ (by exact .inl rfl) (by rfl)
    refine s_lst' (os := []) ?_ (by simp) (by decide)
    exact a_nil'
  refine ss_cons' ?_ ?_
  · refine st_if' ?_ ?_ ?_
    · refine t_cmp' (ta := .vw .fz) (tb := .vw .fz) (o_cmpI op_lt) ?_ ?_ (by rfl) (by rfl) (by rfl)
      · refine e_var (i := 5) (k := .ve .fz) nm_law_numbers_5 (by rfl)
      refine s_bin' (ta := .vw .fz) (tb := .vw .fz) o_pow ?_ ?_ (by rfl) (by rfl)
      · exact e_int
      exact e_int
    · refine ss_cons' ?_ ?_
      · refine st_for' (gm := .fz) (t := (.nm 7)) (by exact passes_of rfl) (by rfl) ?_ ?_ ?_ (by nofun) (by intro _; rfl)
        · refine i_rng1' (ta := .vw .fz) ?_ (by rfl) (gl_by (by kernel_rfl)) T.b_range (by rfl)
          refine e_var (i := 2) (k := .ve .fz) nm_law_numbers_2 (by rfl)
        · refine e_nm (i := 7) lo_law_numbers_7 (by rfl) (by exact .inl rfl)
        refine ss_cons' ?_ ?_
        · refine e_set' (ta := .vw .fz) (i := 8) lo_law_numbers_8 (by rfl) ?_ (by rfl) (by exact .inl rfl) (by rfl)
          refine s_bin' (ta := .vw .fz) (tb := .vw .fz) o_mod ?_ ?_ (by rfl) (by rfl)
          · refine e_ty ⟨gl_by (by kernel_rfl), T.b_int⟩ (b_int) ?_ (by rfl) (by decide +kernel) (by decide +kernel) (by rfl) (by rfl)
            refine a_cons' (o := .bw) (ta := .vw .fz) ?_ ?_ (by rfl) (by rfl)
            · refine s_bin' (ta := .vw .fz) (tb := .vw .fz) o_mul ?_ ?_ (by rfl) (by rfl)
              · refine e_var (i := 5) (k := .ve .fz) nm_law_numbers_5 (by rfl)
              refine s_bin' (ta := .vw .fz) (tb := .vw .fz) o_add ?_ ?_ (by rfl) (by rfl)
              · exact e_int
              refine s_bin' (ta := .vw .fz) (tb := .vw .fz) o_mul ?_ ?_ (by rfl) (by rfl)
              · exact e_int
              refine s_bin' (ta := .vw .fz) (tb := .vw .fz) o_add ?_ ?_ (by rfl) (by rfl)
              · refine e_var (i := 7) (k := .ve .fz) nm_law_numbers_7 (by rfl)
              refine e_var (i := 4) (k := .ve .fz) nm_law_numbers_4 (by rfl)
            exact a_nil'
          exact e_int
        refine ss_cons' ?_ ?_
        · refine st_append' (ta := .vw .fz) (i := 6) (by rfl) nm_law_numbers_6 (by rfl) ?_ (by rfl) (by rfl) (by rfl) (by rfl) (by rfl) (by rfl) (by rfl)
          refine s_bin' (ta := .vw .fz) (tb := .vw .fz) o_mod ?_ ?_ (by rfl) (by rfl)
          · refine e_ty ⟨gl_by (by kernel_rfl), T.b_int⟩ (b_int) ?_ (by rfl) (by decide +kernel) (by decide +kernel) (by rfl) (by rfl)
            refine a_cons' (o := .bw) (ta := .vw .fz) ?_ ?_ (by rfl) (by rfl)
            · refine s_bin' (ta := .vw .fz) (tb := .vw .fz) o_mul ?_ ?_ (by rfl) (by rfl)
              · refine s_bin' (ta := .vw .fz) (tb := .vw .fz) o_mul ?_ ?_ (by rfl) (by rfl)
                · refine e_var (i := 8) (k := .ve .fz) nm_law_numbers_8 (by rfl)
                refine e_var (i := 8) (k := .ve .fz) nm_law_numbers_8 (by rfl)
              exact e_int
            exact a_nil'
          exact e_int
        exact ss_nil'
      refine ss_cons' ?_ ?_
      · refine st_retOw' (i := 6) nm_law_numbers_6 (by rfl)
      exact ss_nil'
    exact ss_nil'
  refine ss_cons' ?_ ?_
  · refine st_for' (gm := .fz) (t := (.nm 7)) (by exact passes_of rfl) (by rfl) ?_ ?_ ?_ (by nofun) (by intro _; rfl)
    · refine i_rng1' (ta := .vw .fz) ?_ (by rfl) (gl_by (by kernel_rfl)) T.b_range (by rfl)
      refine e_var (i := 2) (k := .ve .fz) nm_law_numbers_2 (by rfl)
    · refine e_nm (i := 7) lo_law_numbers_7 (by rfl) (by exact .inl rfl)
    refine ss_cons' ?_ ?_
    · refine st_append' (ta := .vw .fz) (i := 6) (by rfl) nm_law_numbers_6 (by rfl) ?_ (by rfl) (by rfl) (by rfl) (by rfl) (by rfl) (by rfl) (by rfl)
      refine s_bin' (ta := .vw .fz) (tb := .vw .fz) o_mod ?_ ?_ (by rfl) (by rfl)
      · refine e_ty ⟨gl_by (by kernel_rfl), T.b_int⟩ (b_int) ?_ (by rfl) (by decide +kernel) (by decide +kernel) (by rfl) (by rfl)
        refine a_cons' (o := .bw) (ta := .vw .fz) ?_ ?_ (by rfl) (by rfl)
        · refine e_var (i := 5) (k := .ve .fz) nm_law_numbers_5 (by rfl)
        exact a_nil'
      exact e_int
    refine ss_cons' ?_ ?_
    · refine e_set' (ta := .vw .fz) (i := 5) lo_law_numbers_5 (by rfl) ?_ (by rfl) (by exact .inl rfl) (by rfl)
      refine s_bin' (ta := .vw .fz) (tb := .vw .fz) o_div ?_ ?_ (by rfl) (by rfl)
      · refine e_var (i := 5) (k := .ve .fz) nm_law_numbers_5 (by rfl)
      exact e_int
    exact ss_nil'
  refine ss_cons' ?_ ?_
  · refine st_retOw' (i := 6) nm_law_numbers_6 (by rfl)
  exact ss_nil'
theorem ok_law_numbers {P : Program} {w : World} {K : PySem.W.Frag} {mg : Str → Option Value} {base : Heap} {f : Addr} {fd : FuncData} (T : Fx w K mg) (D : FunD K "_law_numbers" "_law_numbers" (defArgs (top 25)) (defBody (top 25)) (defScope (top 25)) [] [] f fd) (hm : mg "_law_numbers" = some (.ref f)) : Cal P w K mg base "_law_numbers" 1 sg_law_numbers φ_law_numbers := ⟨⟨f, fd, ["script", "at", "many"], def_ok D sc_law_numbers rfl rfl (by decide) rfl (body_law_numbers T), hm, D.kp, D.bindsN fun _ _ _ _ _ _ us hl => match us, hl with | [_, _, _], _ => rfl⟩⟩
abbrev S_law_names : Scope := defScope (top 26)
abbrev N_law_names : List Str := ["start", "step", "words", "k"]
abbrev K_law_names : List Kd := [.ve .fz, .ve .fz, .ve .fz, .ve .fz]
theorem sc_law_names : FnScope N_law_names ["start", "step"] S_law_names := ⟨rfl, rfl, rfl, by decide +kernel, rfl, by decide +kernel, by decide +kernel⟩
theorem nd_law_names : N_law_names.Nodup := sc_law_names.nd
theorem nm_law_names_0 : Nm N_law_names S_law_names 0 "start" := nm_by (by kernel_rfl)
theorem lo_law_names_0 : Lo N_law_names S_law_names 0 "start" := lo_by (by kernel_rfl)
theorem nm_law_names_1 : Nm N_law_names S_law_names 1 "step" := nm_by (by kernel_rfl)
theorem lo_law_names_1 : Lo N_law_names S_law_names 1 "step" := lo_by (by kernel_rfl)
theorem nm_law_names_2 : Nm N_law_names S_law_names 2 "words" := nm_by (by kernel_rfl)
theorem lo_law_names_2 : Lo N_law_names S_law_names 2 "words" := lo_by (by kernel_rfl)
def g_law_names : So := (sSeq (sSet 2 (fLst (lCons (fC (.str "end")) (lCons (fC (.str "a")) (lCons (fC (.str "invoke")) (lCons (fC (.str "start")) (lCons (fC (.str "hook")) (lCons (fC (.str "release")) (lCons (fC (.str "callback")) (lCons (fC (.str "call")) (lCons (fC (.str "skip")) (lCons (fC (.str "baaaaaaa")) (lCons (fC (.str "acquire")) (lCons (fC (.str "return")) (lCons (fC (.str "done")) (lCons (fC (.str "entry")) lNil))))))))))))))))
  (sSeq (sRet (lcF (.nm 3) none (fIx (evVar 2) (fBin modD (fBi intD (lCons (fBin addD (evVar 0) (fBin mulD (fIx (fLst (lCons (fC (.int 1)) (lCons (fC (.int 3)) (lCons (fC (.int 5)) (lCons (fC (.int 9)) (lCons (fC (.int 11)) (lCons (fC (.int 13)) lNil))))))) (fBin modD (fBi intD (lCons (evVar 1) lNil)) (fC (.int 6)))) (evVar 3))) lNil)) (fC (.int 14)))) (iRng1 (fC (.int 14))) [3]))
  sNx))
abbrev sg_law_names : Sig := ⟨[.fz, .fz], .fr (.lst .fz)⟩
def φ_law_names : Fn := defF (.fr (.lst .fz)) 4 g_law_names
theorem body_law_names {P : Program} {w : World} {K : PySem.W.Frag} {mg : Str → Option Value} {base : Heap} {f : Addr} (T : Fx w K mg) : BodyOk P w K mg base N_law_names "_law_names" S_law_names f 0 K_law_names (.fr (.lst .fz)) (defBody (top 26)) g_law_names := by
  intro cdv A outer s H E c hr hK hKs tk
  obtain ⟨K', Ks', F0, G, W⟩ := c
  cases hK
  cases hKs
  have hun := hr.un
  have hu1 : (A.deeper (envOfC "_law_names" S_law_names s.heap.objs.size f cdv)).units + 1 < cLine := by omega
  have hu64 : (A.deeper (envOfC "_law_names" S_law_names s.heap.objs.size f cdv)).units + 64 < cLine := by omega
  have hu65 : (A.deeper (envOfC "_law_names" S_law_names s.heap.objs.size f cdv)).units + 65 < cLine := by omega
  refine ss_cons' ?_ ?_
  · refine e_set' (ta := .vw .fz) (i := 2) lo_law_names_2 (by rfl) ?_ (by rfl) (by exact .inl rfl) (by rfl)
    refine s_fz (ta := .fr (.lst .fz)) ?_ (by rfl)
    refine s_lst' (os := [.fz, .fz, .fz, .fz, .fz, .fz, .fz, .fz, .fz, .fz, .fz, .fz, .fz, .fz]) ?_ (by simp) (by decide)
    refine a_cons' (o := .fz) (ta := .vw .fz) ?_ ?_ (by rfl) (by rfl)
    · refine e_str (by decide +kernel)
    refine a_cons' (o := .fz) (ta := .vw .fz) ?_ ?_ (by rfl) (by rfl)
    · refine e_str (by decide +kernel)
    refine a_cons' (o := .fz) (ta := .vw .fz) ?_ ?_ (by rfl) (by rfl)
    · refine e_str (by decide +kernel)
    refine a_cons' (o := .fz) (ta := .vw .fz) ?_ ?_ (by rfl) (by rfl)
    · refine e_str (by decide +kernel)
    refine a_cons' (o := .fz) (ta := .vw .fz) ?_ ?_ (by rfl) (by rfl)
    · refine e_str (by decide +kernel)
    refine a_cons' (o := .fz) (ta := .vw .fz) ?_ ?_ (by rfl) (by rfl)
    · refine e_str (by decide +kernel)
    refine a_cons' (o := .fz) (ta := .vw .fz) ?_ ?_ (by rfl) (by rfl)
    · refine e_str (by decide +kernel)
    refine a_cons' (o := .fz) (ta := .vw .fz) ?_ ?_ (by rfl) (by rfl)
    · refine e_str (by decide +kernel)
    refine a_cons' (o := .fz) (ta := .vw .fz) ?_ ?_ (by rfl) (by rfl)
    · refine e_str (by decide +kernel)
    refine a_cons' (o := .fz) (ta := .vw .fz) ?_ ?_ (by rfl) (by rfl)
    · refine e_str (by decide +kernel)
    refine a_cons' (o := .fz) (ta := .vw .fz) ?_ ?_ (by rfl) (by rfl)
    · refine e_str (by decide +kernel)
    refine a_cons' (o := .fz) (ta := .vw .fz) ?_ ?_ (by rfl) (by rfl)
    · refine e_str (by decide +kernel)
    refine a_cons' (o := .fz) (ta := .vw .fz) ?_ ?_ (by rfl) (by rfl)
    · refine e_str (by decide +kernel)
    refine a_cons' (o := .fz) (ta := .vw .fz) ?_ ?_ (by rfl) (by rfl)
    · refine e_str (by decide +kernel)
    exact a_nil'
  refine ss_cons' ?_ ?_
  · refine st_retFr' (ta := .fr (.lst .fz)) ?_ (by rfl)
    refine e_lc' (ety := .vw .fz) (gm := .fz) (own := [("k", 3)]) (t := (.nm 3)) (tst := none) (by rfl) nd_law_names ?_ (blkOk_by (own := [("k", 3)]) (by kernel_rfl)) ?_ ?_ ?_ (by rfl) (by decide) (by intro _; rfl) (by rfl)
    · refine i_rng1' (ta := .vw .fz) ?_ (by rfl) (gl_by (by kernel_rfl)) T.b_range (by rfl)
      exact e_int
    · intro _ _ _ _ _
      refine e_nm (i := 3) (lo_by (by kernel_rfl)) (by rfl) (.inr (by kernel_rfl))
    · intro _ _ _ _ _
      exact p_nil
    intro _ _ _ _ _
    refine s_ix' (o := .fz) (tb := .vw .fz) ?_ ?_ (by rfl) (by intro _ _; rfl) (by intro _ _; rfl) hu1 (by rfl) (by rfl)
    · refine e_var (i := 2) (k := .ve .fz) (nm_by (by kernel_rfl)) (by rfl)
    refine s_bin' (ta := .vw .fz) (tb := .vw .fz) o_mod ?_ ?_ (by rfl) (by rfl)
    · refine e_ty ⟨gl_by (by kernel_rfl), T.b_int⟩ (b_int) ?_ (by rfl) (by decide +kernel) (by decide +kernel) (by rfl) (by rfl)
      refine a_cons' (o := .bw) (ta := .vw .fz) ?_ ?_ (by rfl) (by rfl)
      · refine s_bin' (ta := .vw .fz) (tb := .vw .fz) o_add ?_ ?_ (by rfl) (by rfl)
        · refine e_var (i := 0) (k := .ve .fz) (nm_by (by kernel_rfl)) (by rfl)
        refine s_bin' (ta := .vw .fz) (tb := .vw .fz) o_mul ?_ ?_ (by rfl) (by rfl)
        · refine s_ix' (o := .fz) (tb := .vw .fz) ?_ ?_ (by rfl) (by intro _ _; rfl) (by intro _ _; rfl) hu1 (by rfl) (by rfl)
          · refine s_fz (ta := .fr (.lst .fz)) ?_ (by rfl)
            refine s_lst' (os := [.fz, .fz, .fz, .fz, .fz, .fz]) ?_ (by simp) (by decide)
            refine a_cons' (o := .fz) (ta := .vw .fz) ?_ ?_ (by rfl) (by rfl)
            · exact e_int
            refine a_cons' (o := .fz) (ta := .vw .fz) ?_ ?_ (by rfl) (by rfl)
            · exact e_int
            refine a_cons' (o := .fz) (ta := .vw .fz) ?_ ?_ (by rfl) (by rfl)
            · exact e_int
            refine a_cons' (o := .fz) (ta := .vw .fz) ?_ ?_ (by rfl) (by rfl)
            · exact e_int
            refine a_cons' (o := .fz) (ta := .vw .fz) ?_ ?_ (by rfl) (by rfl)
            · exact e_int
            refine a_cons' (o := .fz) (ta := .vw .fz) ?_ ?_ (by rfl) (by rfl)
            · exact e_int
            exact a_nil'
          refine s_bin' (ta := .vw .fz) (tb := .vw .fz) o_mod ?_ ?_ (by rfl) (by rfl)
          · refine e_ty ⟨gl_by (by kernel_rfl), T.b_int⟩ (b_int) ?_ (by rfl) (by decide +kernel) (by decide +kernel) (by rfl) (by rfl)
            refine a_cons' (o := .bw) (ta := .vw .fz) ?_ ?_ (by rfl) (by rfl)
            · refine e_var (i := 1) (k := .ve .fz) (nm_by (by kernel_rfl)) (by rfl)
            exact a_nil'
          exact e_int
        refine e_var (i := 3) (k := .ve .fz) (nm_by (by kernel_rfl)) (by rfl)
      exact a_nil'
    exact e_int
  exact ss_nil'
theorem ok_law_names {P : Program} {w : World} {K : PySem.W.Frag} {mg : Str → Option Value} {base : Heap} {f : Addr} {fd : FuncData} (T : Fx w K mg) (D : FunD K "_law_names" "_law_names" (defArgs (top 26)) (defBody (top 26)) (defScope (top 26)) [] [] f fd) (hm : mg "_law_names" = some (.ref f)) : Cal P w K mg base "_law_names" 1 sg_law_names φ_law_names := ⟨⟨f, fd, ["start", "step"], def_ok D sc_law_names rfl rfl (by decide) rfl (body_law_names T), hm, D.kp, D.bindsN fun _ _ _ _ _ _ us hl => match us, hl with | [_, _], _ => rfl⟩⟩
abbrev S_law_leaf : Scope := defScope (top 27)
abbrev N_law_leaf : List Str := ["told", "due"]
abbrev K_law_leaf : List Kd := [.ve .fz, .ve .fz]
theorem sc_law_leaf : FnScope N_law_leaf ["told", "due"] S_law_leaf := ⟨rfl, rfl, rfl, by decide +kernel, rfl, by decide +kernel, by decide +kernel⟩
theorem nd_law_leaf : N_law_leaf.Nodup := sc_law_leaf.nd
theorem nm_law_leaf_0 : Nm N_law_leaf S_law_leaf 0 "told" := nm_by (by kernel_rfl)
theorem lo_law_leaf_0 : Lo N_law_leaf S_law_leaf 0 "told" := lo_by (by kernel_rfl)
theorem nm_law_leaf_1 : Nm N_law_leaf S_law_leaf 1 "due" := nm_by (by kernel_rfl)
theorem lo_law_leaf_1 : Lo N_law_leaf S_law_leaf 1 "due" := lo_by (by kernel_rfl)
def g_law_leaf : So := (sSeq (sIf (fCmp (isN) (evVar 1) (fC .non)) (sSeq (sRet (fCmp (isN) (evVar 0) (fC .non)))
  sNx) sNx)
  (sSeq (sIf (fIsi .bool (evVar 1)) (sSeq (sRet (fAnd (fIsi .bool (evVar 0)) (fCmp (eqD) (evVar 0) (evVar 1))))
  sNx) sNx)
  (sSeq (sIf (fIsi .int (evVar 1)) (sSeq (sRet (fAnd (fIsi .int (evVar 0)) (fAnd (fNot (fIsi .bool (evVar 0))) (fCmp (eqD) (evVar 0) (evVar 1)))))
  sNx) sNx)
  (sSeq (sRet (fAnd (fIsi .str (evVar 0)) (fCmp (eqD) (evVar 0) (evVar 1))))
  sNx))))
abbrev sg_law_leaf : Sig := ⟨[.fz, .fz], .vw .fz⟩
def φ_law_leaf : Fn := defF (.vw .fz) 2 g_law_leaf
theorem body_law_leaf {P : Program} {w : World} {K : PySem.W.Frag} {mg : Str → Option Value} {base : Heap} {f : Addr} (T : Fx w K mg) : BodyOk P w K mg base N_law_leaf "_law_leaf" S_law_leaf f 0 K_law_leaf (.vw .fz) (defBody (top 27)) g_law_leaf := by
  intro cdv A outer s H E c hr hK hKs tk
  obtain ⟨K', Ks', F0, G, W⟩ := c
  cases hK
  cases hKs
  have hun := hr.un
  have hu1 : (A.deeper (envOfC "_law_leaf" S_law_leaf s.heap.objs.size f cdv)).units + 1 < cLine := by omega
  have hu64 : (A.deeper (envOfC "_law_leaf" S_law_leaf s.heap.objs.size f cdv)).units + 64 < cLine := by omega
  have hu65 : (A.deeper (envOfC "_law_leaf" S_law_leaf s.heap.objs.size f cdv)).units + 65 < cLine := by omega
  refine ss_cons' ?_ ?_
  · refine st_if' ?_ ?_ ?_
    · refine t_cmp' (ta := .vw .fz) (tb := .vw .fz) (o_is) ?_ ?_ (by rfl) (by rfl) (by rfl)
      · refine e_var (i := 1) (k := .ve .fz) nm_law_leaf_1 (by rfl)
      exact e_non
    · refine ss_cons' ?_ ?_
      · refine st_ret' (ta := .vw .fz) ?_ (by rfl)
        refine s_cmp' (ta := .vw .fz) (tb := .vw .fz) (o_is) ?_ ?_ (by rfl) (by rfl) (by rfl)
        · refine e_var (i := 0) (k := .ve .fz) nm_law_leaf_0 (by rfl)
        exact e_non
      exact ss_nil'
    exact ss_nil'
  refine ss_cons' ?_ ?_
  · refine st_if' ?_ ?_ ?_
    · refine t_val (ta := .vw .fz) ?_ (by intro _; rfl) (by rfl)
      refine e_isi (t := .bool) (ta := .vw .fz) ⟨gl_by (by kernel_rfl), T.b_isinstance⟩ ⟨gl_by (by kernel_rfl), T.b_bool⟩ (by rfl) ?_ (by rfl) (by rfl) (by decide +kernel) (by decide +kernel) (by rfl)
      refine e_var (i := 1) (k := .ve .fz) nm_law_leaf_1 (by rfl)
    · refine ss_cons' ?_ ?_
      · refine st_ret' (ta := .vw .fz) ?_ (by rfl)
        refine s_and' (ta := .vw .fz) ?_ (by rfl) ?_
        · refine e_isi (t := .bool) (ta := .vw .fz) ⟨gl_by (by kernel_rfl), T.b_isinstance⟩ ⟨gl_by (by kernel_rfl), T.b_bool⟩ (by rfl) ?_ (by rfl) (by rfl) (by decide +kernel) (by decide +kernel) (by rfl)
          refine e_var (i := 0) (k := .ve .fz) nm_law_leaf_0 (by rfl)
        refine s_one ?_
        refine s_cmp' (ta := .vw .fz) (tb := .vw .fz) (o_eq hu64 (by rfl)) ?_ ?_ (by rfl) (by rfl) (by rfl)
        · refine e_var (i := 0) (k := .ve .fz) nm_law_leaf_0 (by rfl)
        refine e_var (i := 1) (k := .ve .fz) nm_law_leaf_1 (by rfl)
      exact ss_nil'
    exact ss_nil'
  refine ss_cons' ?_ ?_
  · refine st_if' ?_ ?_ ?_
    · refine t_val (ta := .vw .fz) ?_ (by intro _; rfl) (by rfl)
      refine e_isi (t := .int) (ta := .vw .fz) ⟨gl_by (by kernel_rfl), T.b_isinstance⟩ ⟨gl_by (by kernel_rfl), T.b_int⟩ (by rfl) ?_ (by rfl) (by rfl) (by decide +kernel) (by decide +kernel) (by rfl)
      refine e_var (i := 1) (k := .ve .fz) nm_law_leaf_1 (by rfl)
    · refine ss_cons' ?_ ?_
      · refine st_ret' (ta := .vw .fz) ?_ (by rfl)
        refine s_and' (ta := .vw .fz) ?_ (by rfl) ?_
        · refine e_isi (t := .int) (ta := .vw .fz) ⟨gl_by (by kernel_rfl), T.b_isinstance⟩ ⟨gl_by (by kernel_rfl), T.b_int⟩ (by rfl) ?_ (by rfl) (by rfl) (by decide +kernel) (by decide +kernel) (by rfl)
          refine e_var (i := 0) (k := .ve .fz) nm_law_leaf_0 (by rfl)
        refine s_and' (ta := .vw .fz) ?_ (by rfl) ?_
        · refine s_not' (ta := .vw .fz) ?_ (by rfl)
          refine e_isi (t := .bool) (ta := .vw .fz) ⟨gl_by (by kernel_rfl), T.b_isinstance⟩ ⟨gl_by (by kernel_rfl), T.b_bool⟩ (by rfl) ?_ (by rfl) (by rfl) (by decide +kernel) (by decide +kernel) (by rfl)
          refine e_var (i := 0) (k := .ve .fz) nm_law_leaf_0 (by rfl)
        refine s_one ?_
        refine s_cmp' (ta := .vw .fz) (tb := .vw .fz) (o_eq hu64 (by rfl)) ?_ ?_ (by rfl) (by rfl) (by rfl)
        · refine e_var (i := 0) (k := .ve .fz) nm_law_leaf_0 (by rfl)
        refine e_var (i := 1) (k := .ve .fz) nm_law_leaf_1 (by rfl)
      exact ss_nil'
    exact ss_nil'
  refine ss_cons' ?_ ?_
  · refine st_ret' (ta := .vw .fz) ?_ (by rfl)
    refine s_and' (ta := .vw .fz) ?_ (by rfl) ?_
    · refine e_isi (t := .str) (ta := .vw .fz) ⟨gl_by (by kernel_rfl), T.b_isinstance⟩ ⟨gl_by (by kernel_rfl), T.b_str⟩ (by rfl) ?_ (by rfl) (by rfl) (by decide +kernel) (by decide +kernel) (by rfl)
      refine e_var (i := 0) (k := .ve .fz) nm_law_leaf_0 (by rfl)
    refine s_one ?_
    refine s_cmp' (ta := .vw .fz) (tb := .vw .fz) (o_eq hu64 (by rfl)) ?_ ?_ (by rfl) (by rfl) (by rfl)
    · refine e_var (i := 0) (k := .ve .fz) nm_law_leaf_0 (by rfl)
    refine e_var (i := 1) (k := .ve .fz) nm_law_leaf_1 (by rfl)
  exact ss_nil'
theorem ok_law_leaf {P : Program} {w : World} {K : PySem.W.Frag} {mg : Str → Option Value} {base : Heap} {f : Addr} {fd : FuncData} (T : Fx w K mg) (D : FunD K "_law_leaf" "_law_leaf" (defArgs (top 27)) (defBody (top 27)) (defScope (top 27)) [] [] f fd) (hm : mg "_law_leaf" = some (.ref f)) : Cal P w K mg base "_law_leaf" 1 sg_law_leaf φ_law_leaf := ⟨⟨f, fd, ["told", "due"], def_ok D sc_law_leaf rfl rfl (by decide) rfl (body_law_leaf T), hm, D.kp, D.bindsN fun _ _ _ _ _ _ us hl => match us, hl with | [_, _], _ => rfl⟩⟩
abbrev S_law_same : Scope := defScope (top 28)
abbrev N_law_same : List Str := ["told", "due", "pairs", "depth", "inner", "one", "two"]
abbrev K_law_same : List Kd := [.ve .fz, .ve .fz, .ve .fz, .ve .fz, .ow (.lst .fz), .ve .fz, .ve .fz]
theorem sc_law_same : FnScope N_law_same ["told", "due"] S_law_same := ⟨rfl, rfl, rfl, by decide +kernel, rfl, by decide +kernel, by decide +kernel⟩
theorem nd_law_same : N_law_same.Nodup := sc_law_same.nd
theorem nm_law_same_0 : Nm N_law_same S_law_same 0 "told" := nm_by (by kernel_rfl)
theorem lo_law_same_0 : Lo N_law_same S_law_same 0 "told" := lo_by (by kernel_rfl)
theorem nm_law_same_1 : Nm N_law_same S_law_same 1 "due" := nm_by (by kernel_rfl)
theorem lo_law_same_1 : Lo N_law_same S_law_same 1 "due" := lo_by (by kernel_rfl)
theorem nm_law_same_2 : Nm N_law_same S_law_same 2 "pairs" := nm_by (by kernel_rfl)
theorem lo_law_same_2 : Lo N_law_same S_law_same 2 "pairs" := lo_by (by kernel_rfl)
theorem nm_law_same_3 : Nm N_law_same S_law_same 3 "depth" := nm_by (by kernel_rfl)
theorem lo_law_same_3 : Lo N_law_same S_law_same 3 "depth" := lo_by (by kernel_rfl)
theorem nm_law_same_4 : Nm N_law_same S_law_same 4 "inner" := nm_by (by kernel_rfl)
theorem lo_law_same_4 : Lo N_law_same S_law_same 4 "inner" := lo_by (by kernel_rfl)
theorem nm_law_same_5 : Nm N_law_same S_law_same 5 "one" := nm_by (by kernel_rfl)
theorem lo_law_same_5 : Lo N_law_same S_law_same 5 "one" := lo_by (by kernel_rfl)
theorem nm_law_same_6 : Nm N_law_same S_law_same 6 "two" := nm_by (by kernel_rfl)
theorem lo_law_same_6 : Lo N_law_same S_law_same 6 "two" := lo_by (by kernel_rfl)
def g_law_same : So := (sSeq (sSet 2 (fLst (lCons (fTup (lCons (evVar 0) (lCons (evVar 1) lNil))) lNil)))
  (sSeq (sFor (.nm 3) (iRng1 (fC (.int 7))) (sSeq (sSet 4 (fLst lNil))
  (sSeq (sFor (.tp [(.nm 5), (.nm 6)]) (iVal (evVar 2)) (sSeq (sIf (fOr (fIsi .tuple (evVar 6)) (fIsi .list (evVar 6))) (sSeq (sIf (fAnd (fIsi .tuple (evVar 6)) (fNot (fIsi .tuple (evVar 5)))) (sSeq (sRet (fC (.bl false)))
  sNx) sNx)
  (sSeq (sIf (fAnd (fIsi .list (evVar 6)) (fNot (fIsi .list (evVar 5)))) (sSeq (sRet (fC (.bl false)))
  sNx) sNx)
  (sSeq (sIf (fCmp (neD) (fBi lenD (lCons (evVar 5) lNil)) (fBi lenD (lCons (evVar 6) lNil))) (sSeq (sRet (fC (.bl false)))
  sNx) sNx)
  (sSeq (sExt 4 (fLz (lCons (evVar 5) (lCons (evVar 6) lNil))))
  sNx)))) (sSeq (sIf (fNot (fCall φ_law_leaf (lCons (evVar 5) (lCons (evVar 6) lNil)))) (sSeq (sRet (fC (.bl false)))
  sNx) sNx)
  sNx))
  sNx))
  (sSeq (sSet 2 (fBi lstD (lCons (evVar 4) lNil)))
  sNx))))
  (sSeq (sRet (fCmp (eqD) (fBi lenD (lCons (evVar 2) lNil)) (fC (.int 0))))
  sNx)))
abbrev sg_law_same : Sig := ⟨[.fz, .fz], .vw .fz⟩
def φ_law_same : Fn := defF (.vw .fz) 7 g_law_same
theorem body_law_same {P : Program} {w : World} {K : PySem.W.Frag} {mg : Str → Option Value} {base : Heap} {f : Addr} (T : Fx w K mg) (C__law_leaf : Cal P w K mg base "_law_leaf" 1 sg_law_leaf φ_law_leaf) : BodyOk P w K mg base N_law_same "_law_same" S_law_same f 1 K_law_same (.vw .fz) (defBody (top 28)) g_law_same := by
  intro cdv A outer s H E c hr hK hKs tk
  obtain ⟨K', Ks', F0, G, W⟩ := c
  cases hK
  cases hKs
  have hun := hr.un
  have hu1 : (A.deeper (envOfC "_law_same" S_law_same s.heap.objs.size f cdv)).units + 1 < cLine := by omega
  have hu64 : (A.deeper (envOfC "_law_same" S_law_same s.heap.objs.size f cdv)).units + 64 < cLine := by omega
  have hu65 : (A.deeper (envOfC "_law_same" S_law_same s.heap.objs.size f cdv)).units + 65 < cLine := by omega
  refine ss_cons' ?_ ?_
  · refine e_set' (ta := .vw .fz) (i := 2) lo_law_same_2 (by rfl) ?_ (by rfl) (by exact .inl rfl) (by rfl)
    refine s_fz (ta := .fr (.lst .fz)) ?_ (by rfl)
    refine s_lst' (os := [.fz]) ?_ (by simp) (by decide)
    refine a_cons' (o := .fz) (ta := .vw .fz) ?_ ?_ (by rfl) (by rfl)
    · refine s_tup' (os := [.fz, .fz]) ?_ (by simp) (by decide)
      refine a_cons' (o := .fz) (ta := .vw .fz) ?_ ?_ (by rfl) (by rfl)
      · refine e_var (i := 0) (k := .ve .fz) nm_law_same_0 (by rfl)
      refine a_cons' (o := .fz) (ta := .vw .fz) ?_ ?_ (by rfl) (by rfl)
      · refine e_var (i := 1) (k := .ve .fz) nm_law_same_1 (by rfl)
      exact a_nil'
    exact a_nil'
  refine ss_cons' ?_ ?_
  · refine st_for' (gm := .fz) (t := (.nm 3)) (by exact passes_of rfl) (by rfl) ?_ ?_ ?_ (by nofun) (by intro _; rfl)
    · refine i_rng1' (ta := .vw .fz) ?_ (by rfl) (gl_by (by kernel_rfl)) T.b_range (by rfl)
      exact e_int
    · refine e_nm (i := 3) lo_law_same_3 (by rfl) (by exact .inl rfl)
    refine ss_cons' ?_ ?_
    · refine e_own' (i := 4) lo_law_same_4 (by rfl) ?_ (by exact .inl rfl) (by rfl)
      refine s_lst' (os := []) ?_ (by simp) (by decide)
      exact a_nil'
    refine ss_cons' ?_ ?_
    · refine st_for' (gm := .fz) (t := (.tp [(.nm 5), (.nm 6)])) (by exact passes_of rfl) (by rfl) ?_ ?_ ?_ (by nofun) (by intro _; rfl)
      · refine i_val' (o := .fz) (by rfl) ?_ (by rfl) (by rfl)
        refine e_var (i := 2) (k := .ve .fz) nm_law_same_2 (by rfl)
      · refine g_tp (by rfl) (by rfl) ?_ (by rfl) (by rfl)
        refine gs_cons ?_ ?_ (by rfl)
        · refine e_nm (i := 5) lo_law_same_5 (by rfl) (by exact .inl rfl)
        refine gs_cons ?_ ?_ (by rfl)
        · refine e_nm (i := 6) lo_law_same_6 (by rfl) (by exact .inl rfl)
        exact gs_nil
      refine ss_cons' ?_ ?_
      · refine st_if' ?_ ?_ ?_
        · refine PW.pt ?_
          refine w_or' ?_ ?_
          · refine t_val (ta := .vw .fz) ?_ (by intro _; rfl) (by rfl)
            refine e_isi (t := .tuple) (ta := .vw .fz) ⟨gl_by (by kernel_rfl), T.b_isinstance⟩ ⟨gl_by (by kernel_rfl), T.b_tuple⟩ (by rfl) ?_ (by rfl) (by rfl) (by decide +kernel) (by decide +kernel) (by rfl)
            refine e_var (i := 6) (k := .ve .fz) nm_law_same_6 (by rfl)
          refine w_one ?_
          refine t_val (ta := .vw .fz) ?_ (by intro _; rfl) (by rfl)
          refine e_isi (t := .list) (ta := .vw .fz) ⟨gl_by (by kernel_rfl), T.b_isinstance⟩ ⟨gl_by (by kernel_rfl), T.b_list⟩ (by rfl) ?_ (by rfl) (by rfl) (by decide +kernel) (by decide +kernel) (by rfl)
          refine e_var (i := 6) (k := .ve .fz) nm_law_same_6 (by rfl)
        · refine ss_cons' ?_ ?_
          · refine st_if' ?_ ?_ ?_
            · refine PW.pt ?_
              refine w_and' ?_ ?_
              · refine t_val (ta := .vw .fz) ?_ (by intro _; rfl) (by rfl)
                refine e_isi (t := .tuple) (ta := .vw .fz) ⟨gl_by (by kernel_rfl), T.b_isinstance⟩ ⟨gl_by (by kernel_rfl), T.b_tuple⟩ (by rfl) ?_ (by rfl) (by rfl) (by decide +kernel) (by decide +kernel) (by rfl)
                refine e_var (i := 6) (k := .ve .fz) nm_law_same_6 (by rfl)
              refine w_one ?_
              refine t_not' ?_
              refine t_val (ta := .vw .fz) ?_ (by intro _; rfl) (by rfl)
              refine e_isi (t := .tuple) (ta := .vw .fz) ⟨gl_by (by kernel_rfl), T.b_isinstance⟩ ⟨gl_by (by kernel_rfl), T.b_tuple⟩ (by rfl) ?_ (by rfl) (by rfl) (by decide +kernel) (by decide +kernel) (by rfl)
              refine e_var (i := 5) (k := .ve .fz) nm_law_same_5 (by rfl)
            · refine ss_cons' ?_ ?_
              · refine st_ret' (ta := .vw .fz) ?_ (by rfl)
                exact e_bl
              exact ss_nil'
            exact ss_nil'
          refine ss_cons' ?_ ?_
          · refine st_if' ?_ ?_ ?_
            · refine PW.pt ?_
              refine w_and' ?_ ?_
              · refine t_val (ta := .vw .fz) ?_ (by intro _; rfl) (by rfl)
                refine e_isi (t := .list) (ta := .vw .fz) ⟨gl_by (by kernel_rfl), T.b_isinstance⟩ ⟨gl_by (by kernel_rfl), T.b_list⟩ (by rfl) ?_ (by rfl) (by rfl) (by decide +kernel) (by decide +kernel) (by rfl)
                refine e_var (i := 6) (k := .ve .fz) nm_law_same_6 (by rfl)
              refine w_one ?_
              refine t_not' ?_
              refine t_val (ta := .vw .fz) ?_ (by intro _; rfl) (by rfl)
              refine e_isi (t := .list) (ta := .vw .fz) ⟨gl_by (by kernel_rfl), T.b_isinstance⟩ ⟨gl_by (by kernel_rfl), T.b_list⟩ (by rfl) ?_ (by rfl) (by rfl) (by decide +kernel) (by decide +kernel) (by rfl)
              refine e_var (i := 5) (k := .ve .fz) nm_law_same_5 (by rfl)
            · refine ss_cons' ?_ ?_
              · refine st_ret' (ta := .vw .fz) ?_ (by rfl)
                exact e_bl
              exact ss_nil'
            exact ss_nil'
          refine ss_cons' ?_ ?_
          · refine st_if' ?_ ?_ ?_
            · refine t_cmp' (ta := .vw .fz) (tb := .vw .fz) (o_ne hu64 (by rfl)) ?_ ?_ (by rfl) (by rfl) (by rfl)
              · refine e_bi ⟨gl_by (by kernel_rfl), T.b_len⟩ (b_len (by rfl)) ?_ (by rfl) (by decide +kernel) (by decide +kernel) (by rfl) (by rfl)
                refine a_cons' (o := .bw) (ta := .vw .fz) ?_ ?_ (by rfl) (by rfl)
                · refine e_var (i := 5) (k := .ve .fz) nm_law_same_5 (by rfl)
                exact a_nil'
              refine e_bi ⟨gl_by (by kernel_rfl), T.b_len⟩ (b_len (by rfl)) ?_ (by rfl) (by decide +kernel) (by decide +kernel) (by rfl) (by rfl)
              refine a_cons' (o := .bw) (ta := .vw .fz) ?_ ?_ (by rfl) (by rfl)
              · refine e_var (i := 6) (k := .ve .fz) nm_law_same_6 (by rfl)
              exact a_nil'
            · refine ss_cons' ?_ ?_
              · refine st_ret' (ta := .vw .fz) ?_ (by rfl)
                exact e_bl
              exact ss_nil'
            exact ss_nil'
          refine ss_cons' ?_ ?_
          · refine st_extend (ta := .vw .fz) (i := 4) (by rfl) nm_law_same_4 (by rfl) ?_ (by rfl) (by rfl) (by rfl) (by rfl) (by rfl) (by rfl) (by rfl)
            refine s_fz (ta := .fr (.lst .fz)) ?_ (by rfl)
            refine s_lz (by rfl) (by rfl) ?_ (gl_by (by kernel_rfl)) T.b_list (by decide +kernel) (gl_by (by kernel_rfl)) T.b_zip (by rfl) (by rfl) (by rfl)
            refine a_cons' (o := .fz) (ta := .vw .fz) ?_ ?_ (by rfl) (by rfl)
            · refine e_var (i := 5) (k := .ve .fz) nm_law_same_5 (by rfl)
            refine a_cons' (o := .fz) (ta := .vw .fz) ?_ ?_ (by rfl) (by rfl)
            · refine e_var (i := 6) (k := .ve .fz) nm_law_same_6 (by rfl)
            exact a_nil'
          exact ss_nil'
        refine ss_cons' ?_ ?_
        · refine st_if' ?_ ?_ ?_
          · refine t_not' ?_
            refine t_val (ta := .vw .fz) ?_ (by intro _; rfl) (by rfl)
            refine e_call' C__law_leaf hr (by decide) (by rfl) (gl_by (by kernel_rfl)) tk ?_ (by decide +kernel) (by rfl) (by rfl) (by rfl)
            refine a_cons' (o := .fz) (ta := .vw .fz) ?_ ?_ (by rfl) (by rfl)
            · refine e_var (i := 5) (k := .ve .fz) nm_law_same_5 (by rfl)
            refine a_cons' (o := .fz) (ta := .vw .fz) ?_ ?_ (by rfl) (by rfl)
            · refine e_var (i := 6) (k := .ve .fz) nm_law_same_6 (by rfl)
            exact a_nil'
          · refine ss_cons' ?_ ?_
            · refine st_ret' (ta := .vw .fz) ?_ (by rfl)
              exact e_bl
            exact ss_nil'
          exact ss_nil'
        exact ss_nil'
      exact ss_nil'
    refine ss_cons' ?_ ?_
    · refine e_set' (ta := .vw .fz) (i := 2) lo_law_same_2 (by rfl) ?_ (by rfl) (by exact .inl rfl) (by rfl)
      refine s_fz (ta := .fr (.lst .fz)) ?_ (by rfl)
      refine e_ty ⟨gl_by (by kernel_rfl), T.b_list⟩ (b_list) ?_ (by rfl) (by decide +kernel) (by decide +kernel) (by rfl) (by rfl)
      refine a_cons' (o := .bw) (ta := .vw (.lst .fz)) ?_ ?_ (by rfl) (by rfl)
      · refine e_var (i := 4) (k := .ow (.lst .fz)) nm_law_same_4 (by rfl)
      exact a_nil'
    exact ss_nil'
  refine ss_cons' ?_ ?_
  · refine st_ret' (ta := .vw .fz) ?_ (by rfl)
    refine s_cmp' (ta := .vw .fz) (tb := .vw .fz) (o_eq hu64 (by rfl)) ?_ ?_ (by rfl) (by rfl) (by rfl)
    · refine e_bi ⟨gl_by (by kernel_rfl), T.b_len⟩ (b_len (by rfl)) ?_ (by rfl) (by decide +kernel) (by decide +kernel) (by rfl) (by rfl)
      refine a_cons' (o := .bw) (ta := .vw .fz) ?_ ?_ (by rfl) (by rfl)
      · refine e_var (i := 2) (k := .ve .fz) nm_law_same_2 (by rfl)
      exact a_nil'
    exact e_int
  exact ss_nil'
theorem ok_law_same {P : Program} {w : World} {K : PySem.W.Frag} {mg : Str → Option Value} {base : Heap} {f : Addr} {fd : FuncData} (T : Fx w K mg) (C__law_leaf : Cal P w K mg base "_law_leaf" 1 sg_law_leaf φ_law_leaf) (D : FunD K "_law_same" "_law_same" (defArgs (top 28)) (defBody (top 28)) (defScope (top 28)) [] [] f fd) (hm : mg "_law_same" = some (.ref f)) : Cal P w K mg base "_law_same" 2 sg_law_same φ_law_same := ⟨⟨f, fd, ["told", "due"], def_ok D sc_law_same rfl rfl (by decide) rfl (body_law_same T C__law_leaf), hm, D.kp, D.bindsN fun _ _ _ _ _ _ us hl => match us, hl with | [_, _], _ => rfl⟩⟩
abbrev S_law_raise : Scope := defScope (top 29)
abbrev N_law_raise : List Str := ["k", "one", "two"]
abbrev K_law_raise : List Kd := [.ve .fz, .ve .fz, .ve .fz]
theorem sc_law_raise : FnScope N_law_raise ["k", "one", "two"] S_law_raise := ⟨rfl, rfl, rfl, by decide +kernel, rfl, by decide +kernel, by decide +kernel⟩
theorem nd_law_raise : N_law_raise.Nodup := sc_law_raise.nd
theorem nm_law_raise_0 : Nm N_law_raise S_law_raise 0 "k" := nm_by (by kernel_rfl)
theorem lo_law_raise_0 : Lo N_law_raise S_law_raise 0 "k" := lo_by (by kernel_rfl)
theorem nm_law_raise_1 : Nm N_law_raise S_law_raise 1 "one" := nm_by (by kernel_rfl)
theorem lo_law_raise_1 : Lo N_law_raise S_law_raise 1 "one" := lo_by (by kernel_rfl)
theorem nm_law_raise_2 : Nm N_law_raise S_law_raise 2 "two" := nm_by (by kernel_rfl)
theorem lo_law_raise_2 : Lo N_law_raise S_law_raise 2 "two" := lo_by (by kernel_rfl)
def g_law_raise : So := (sSeq (sIf (fCmp (eqD) (evVar 0) (fC (.int 0))) (sSeq (sRaise 1 (lCons (evVar 1) lNil))
  sNx) sNx)
  (sSeq (sIf (fCmp (eqD) (evVar 0) (fC (.int 1))) (sSeq (sRaise 2 (lCons (evVar 1) lNil))
  sNx) sNx)
  (sSeq (sIf (fCmp (eqD) (evVar 0) (fC (.int 2))) (sSeq (sRaise 3 (lCons (evVar 1) lNil))
  sNx) sNx)
  (sSeq (sIf (fCmp (eqD) (evVar 0) (fC (.int 3))) (sSeq (sRaise 4 (lCons (evVar 1) lNil))
  sNx) sNx)
  (sSeq (sIf (fCmp (eqD) (evVar 0) (fC (.int 4))) (sSeq (sRaise 5 (lCons (evVar 1) lNil))
  sNx) sNx)
  (sSeq (sIf (fCmp (eqD) (evVar 0) (fC (.int 5))) (sSeq (sRaise 6 (lCons (evVar 1) lNil))
  sNx) sNx)
  (sSeq (sIf (fCmp (eqD) (evVar 0) (fC (.int 6))) (sSeq (sRaise 7 (lCons (evVar 1) lNil))
  sNx) sNx)
  (sSeq (sIf (fCmp (eqD) (evVar 0) (fC (.int 7))) (sSeq (sRaise 8 (lCons (evVar 1) lNil))
  sNx) sNx)
  (sSeq (sIf (fCmp (eqD) (evVar 0) (fC (.int 8))) (sSeq (sRaise 9 (lCons (evVar 1) lNil))
  sNx) sNx)
  (sSeq (sIf (fCmp (eqD) (evVar 0) (fC (.int 9))) (sSeq (sRaise0 10)
  sNx) sNx)
  (sSeq (sIf (fCmp (eqD) (evVar 0) (fC (.int 10))) (sSeq (sRaise 11 (lCons (evVar 1) lNil))
  sNx) sNx)
  (sSeq (sIf (fCmp (eqD) (evVar 0) (fC (.int 11))) (sSeq (sRaise 12 (lCons (evVar 1) lNil))
  sNx) sNx)
  (sSeq (sIf (fCmp (eqD) (evVar 0) (fC (.int 12))) (sSeq (sRaise 13 (lCons (evVar 1) lNil))
  sNx) sNx)
  (sSeq (sIf (fCmp (eqD) (evVar 0) (fC (.int 13))) (sSeq (sRaise 14 (lCons (evVar 1) (lCons (evVar 2) lNil)))
  sNx) sNx)
  (sSeq (sIf (fCmp (eqD) (evVar 0) (fC (.int 14))) (sSeq (sRaise 15 (lCons (evVar 1) lNil))
  sNx) sNx)
  (sSeq (sIf (fCmp (eqD) (evVar 0) (fC (.int 15))) (sSeq (sRaise 16 (lCons (evVar 1) lNil))
  sNx) sNx)
  (sSeq (sIf (fCmp (eqD) (evVar 0) (fC (.int 16))) (sSeq (sRaise 17 (lCons (evVar 1) lNil))
  sNx) sNx)
  (sSeq (sIf (fCmp (eqD) (evVar 0) (fC (.int 17))) (sSeq (sRaise 18 (lCons (evVar 1) lNil))
  sNx) sNx)
  (sSeq (sIf (fCmp (eqD) (evVar 0) (fC (.int 18))) (sSeq (sRaise0 19)
  sNx) sNx)
  (sSeq (sIf (fCmp (eqD) (evVar 0) (fC (.int 19))) (sSeq (sRaise 20 (lCons (evVar 1) lNil))
  sNx) sNx)
  (sSeq (sIf (fCmp (eqD) (evVar 0) (fC (.int 20))) (sSeq (sRaise 21 (lCons (evVar 1) lNil))
  sNx) sNx)
  (sSeq (sRaise 0 (lCons (evVar 1) lNil))
  sNx))))))))))))))))))))))
abbrev sg_law_raise : Sig := ⟨[.fz, .fz, .fz], .vw .fz⟩
def φ_law_raise : Fn := defF (.vw .fz) 3 g_law_raise
theorem body_law_raise {P : Program} {w : World} {K : PySem.W.Frag} {mg : Str → Option Value} {base : Heap} {f : Addr} (T : Fx w K mg) (X_BadForm : XMk P w K mg base 1 1) (X_Misplaced : XMk P w K mg base 2 1) (X_Duplicate : XMk P w K mg base 3 1) (X_Unknown : XMk P w K mg base 4 1) (X_NotNested : XMk P w K mg base 5 1) (X_TooMany : XMk P w K mg base 6 1) (X_TooLong : XMk P w K mg base 7 1) (X_NoName : XMk P w K mg base 8 1) (X_Repeated : XMk P w K mg base 9 1) (X_WrongMove : XMk P w K mg base 11 1) (X_BadRun : XMk P w K mg base 12 1) (X_NoThread : XMk P w K mg base 13 1) (X_MustWait : XMk P w K mg base 14 1) (X_Refused : XMk P w K mg base 15 1) (X_Deadlocked : XMk P w K mg base 16 1) (X_NoRequest : XMk P w K mg base 17 1) (X_NoContext : XMk P w K mg base 18 1) (X_Clash : XMk P w K mg base 20 1) (X_NoLockOrder : XMk P w K mg base 21 1) (X_LineError : XMk P w K mg base 0 1) : BodyOk P w K mg base N_law_raise "_law_raise" S_law_raise f 2 K_law_raise (.vw .fz) (defBody (top 29)) g_law_raise := by
  intro cdv A outer s H E c hr hK hKs tk
  obtain ⟨K', Ks', F0, G, W⟩ := c
  cases hK
  cases hKs
  have hun := hr.un
  have hu1 : (A.deeper (envOfC "_law_raise" S_law_raise s.heap.objs.size f cdv)).units + 1 < cLine := by omega
  have hu64 : (A.deeper (envOfC "_law_raise" S_law_raise s.heap.objs.size f cdv)).units + 64 < cLine := by omega
  have hu65 : (A.deeper (envOfC "_law_raise" S_law_raise s.heap.objs.size f cdv)).units + 65 < cLine := by omega
  refine ss_cons' ?_ ?_
  · refine st_if' ?_ ?_ ?_
    · refine t_cmp' (ta := .vw .fz) (tb := .vw .fz) (o_eq hu64 (by rfl)) ?_ ?_ (by rfl) (by rfl) (by rfl)
      · refine e_var (i := 0) (k := .ve .fz) nm_law_raise_0 (by rfl)
      exact e_int
    · refine ss_cons' ?_ ?_
      · refine st_raise (ci := 1) (os := [.fz]) X_BadForm hr (by decide) (by rfl) (by rfl) tk (gl_by (by kernel_rfl)) ?_ (by simp) (by rfl) (by decide) (by decide +kernel) (by rfl) (by rfl)
        refine a_cons' (o := .fz) (ta := .vw .fz) ?_ ?_ (by rfl) (by rfl)
        · refine e_var (i := 1) (k := .ve .fz) nm_law_raise_1 (by rfl)
        exact a_nil'
      exact ss_nil'
    exact ss_nil'
  refine ss_cons' ?_ ?_
  · refine st_if' ?_ ?_ ?_
    · refine t_cmp' (ta := .vw .fz) (tb := .vw .fz) (o_eq hu64 (by rfl)) ?_ ?_ (by rfl) (by rfl) (by rfl)
      · refine e_var (i := 0) (k := .ve .fz) nm_law_raise_0 (by rfl)
      exact e_int
    · refine ss_cons' ?_ ?_
      · refine st_raise (ci := 2) (os := [.fz]) X_Misplaced hr (by decide) (by rfl) (by rfl) tk (gl_by (by kernel_rfl)) ?_ (by simp) (by rfl) (by decide) (by decide +kernel) (by rfl) (by rfl)
        refine a_cons' (o := .fz) (ta := .vw .fz) ?_ ?_ (by rfl) (by rfl)
        · refine e_var (i := 1) (k := .ve .fz) nm_law_raise_1 (by rfl)
        exact a_nil'
      exact ss_nil'
    exact ss_nil'
  refine ss_cons' ?_ ?_
  · refine st_if' ?_ ?_ ?_
    · refine t_cmp' (ta := .vw .fz) (tb := .vw .fz) (o_eq hu64 (by rfl)) ?_ ?_ (by rfl) (by rfl) (by rfl)
      · refine e_var (i := 0) (k := .ve .fz) nm_law_raise_0 (by rfl)
      exact e_int
    · refine ss_cons' ?_ ?_
      · refine st_raise (ci := 3) (os := [.fz]) X_Duplicate hr (by decide) (by rfl) (by rfl) tk (gl_by (by kernel_rfl)) ?_ (by simp) (by rfl) (by decide) (by decide +kernel) (by rfl) (by rfl)
        refine a_cons' (o := .fz) (ta := .vw .fz) ?_ ?_ (by rfl) (by rfl)
        · refine e_var (i := 1) (k := .ve .fz) nm_law_raise_1 (by rfl)
        exact a_nil'
      exact ss_nil'
    exact ss_nil'
  refine ss_cons' ?_ ?_
  · refine st_if' ?_ ?_ ?_
    · refine t_cmp' (ta := .vw .fz) (tb := .vw .fz) (o_eq hu64 (by rfl)) ?_ ?_ (by rfl) (by rfl) (by rfl)
      · refine e_var (i := 0) (k := .ve .fz) nm_law_raise_0 (by rfl)
      exact e_int
    · refine ss_cons' ?_ ?_
      · refine st_raise (ci := 4) (os := [.fz]) X_Unknown hr (by decide) (by rfl) (by rfl) tk (gl_by (by kernel_rfl)) ?_ (by simp) (by rfl) (by decide) (by decide +kernel) (by rfl) (by rfl)
        refine a_cons' (o := .fz) (ta := .vw .fz) ?_ ?_ (by rfl) (by rfl)
        · refine e_var (i := 1) (k := .ve .fz) nm_law_raise_1 (by rfl)
        exact a_nil'
      exact ss_nil'
    exact ss_nil'
  refine ss_cons' ?_ ?_
  · refine st_if' ?_ ?_ ?_
    · refine t_cmp' (ta := .vw .fz) (tb := .vw .fz) (o_eq hu64 (by rfl)) ?_ ?_ (by rfl) (by rfl) (by rfl)
      · refine e_var (i := 0) (k := .ve .fz) nm_law_raise_0 (by rfl)
      exact e_int
    · refine ss_cons' ?_ ?_
      · refine st_raise (ci := 5) (os := [.fz]) X_NotNested hr (by decide) (by rfl) (by rfl) tk (gl_by (by kernel_rfl)) ?_ (by simp) (by rfl) (by decide) (by decide +kernel) (by rfl) (by rfl)
        refine a_cons' (o := .fz) (ta := .vw .fz) ?_ ?_ (by rfl) (by rfl)
        · refine e_var (i := 1) (k := .ve .fz) nm_law_raise_1 (by rfl)
        exact a_nil'
      exact ss_nil'
    exact ss_nil'
  refine ss_cons' ?_ ?_
  · refine st_if' ?_ ?_ ?_
    · refine t_cmp' (ta := .vw .fz) (tb := .vw .fz) (o_eq hu64 (by rfl)) ?_ ?_ (by rfl) (by rfl) (by rfl)
      · refine e_var (i := 0) (k := .ve .fz) nm_law_raise_0 (by rfl)
      exact e_int
    · refine ss_cons' ?_ ?_
      · refine st_raise (ci := 6) (os := [.fz]) X_TooMany hr (by decide) (by rfl) (by rfl) tk (gl_by (by kernel_rfl)) ?_ (by simp) (by rfl) (by decide) (by decide +kernel) (by rfl) (by rfl)
        refine a_cons' (o := .fz) (ta := .vw .fz) ?_ ?_ (by rfl) (by rfl)
        · refine e_var (i := 1) (k := .ve .fz) nm_law_raise_1 (by rfl)
        exact a_nil'
      exact ss_nil'
    exact ss_nil'
  refine ss_cons' ?_ ?_
  · refine st_if' ?_ ?_ ?_
    · refine t_cmp' (ta := .vw .fz) (tb := .vw .fz) (o_eq hu64 (by rfl)) ?_ ?_ (by rfl) (by rfl) (by rfl)
      · refine e_var (i := 0) (k := .ve .fz) nm_law_raise_0 (by rfl)
      exact e_int
    · refine ss_cons' ?_ ?_
      · refine st_raise (ci := 7) (os := [.fz]) X_TooLong hr (by decide) (by rfl) (by rfl) tk (gl_by (by kernel_rfl)) ?_ (by simp) (by rfl) (by decide) (by decide +kernel) (by rfl) (by rfl)
        refine a_cons' (o := .fz) (ta := .vw .fz) ?_ ?_ (by rfl) (by rfl)
        · refine e_var (i := 1) (k := .ve .fz) nm_law_raise_1 (by rfl)
        exact a_nil'
      exact ss_nil'
    exact ss_nil'
  refine ss_cons' ?_ ?_
  · refine st_if' ?_ ?_ ?_
    · refine t_cmp' (ta := .vw .fz) (tb := .vw .fz) (o_eq hu64 (by rfl)) ?_ ?_ (by rfl) (by rfl) (by rfl)
      · refine e_var (i := 0) (k := .ve .fz) nm_law_raise_0 (by rfl)
      exact e_int
    · refine ss_cons' ?_ ?_
      · refine st_raise (ci := 8) (os := [.fz]) X_NoName hr (by decide) (by rfl) (by rfl) tk (gl_by (by kernel_rfl)) ?_ (by simp) (by rfl) (by decide) (by decide +kernel) (by rfl) (by rfl)
        refine a_cons' (o := .fz) (ta := .vw .fz) ?_ ?_ (by rfl) (by rfl)
        · refine e_var (i := 1) (k := .ve .fz) nm_law_raise_1 (by rfl)
        exact a_nil'
      exact ss_nil'
    exact ss_nil'
  refine ss_cons' ?_ ?_
  · refine st_if' ?_ ?_ ?_
    · refine t_cmp' (ta := .vw .fz) (tb := .vw .fz) (o_eq hu64 (by rfl)) ?_ ?_ (by rfl) (by rfl) (by rfl)
      · refine e_var (i := 0) (k := .ve .fz) nm_law_raise_0 (by rfl)
      exact e_int
    · refine ss_cons' ?_ ?_
      · refine st_raise (ci := 9) (os := [.fz]) X_Repeated hr (by decide) (by rfl) (by rfl) tk (gl_by (by kernel_rfl)) ?_ (by simp) (by rfl) (by decide) (by decide +kernel) (by rfl) (by rfl)
        refine a_cons' (o := .fz) (ta := .vw .fz) ?_ ?_ (by rfl) (by rfl)
        · refine e_var (i := 1) (k := .ve .fz) nm_law_raise_1 (by rfl)
        exact a_nil'
      exact ss_nil'
    exact ss_nil'
  refine ss_cons' ?_ ?_
  · refine st_if' ?_ ?_ ?_
    · refine t_cmp' (ta := .vw .fz) (tb := .vw .fz) (o_eq hu64 (by rfl)) ?_ ?_ (by rfl) (by rfl) (by rfl)
      · refine e_var (i := 0) (k := .ve .fz) nm_law_raise_0 (by rfl)
      exact e_int
    · refine ss_cons' ?_ ?_
      · refine st_raiseO0 (ci := 10) T.xo_Overfull (by rfl) (by rfl) tk (gl_by (by kernel_rfl)) (by rfl) (by decide +kernel)
      exact ss_nil'
    exact ss_nil'
  refine ss_cons' ?_ ?_
  · refine st_if' ?_ ?_ ?_
    · refine t_cmp' (ta := .vw .fz) (tb := .vw .fz) (o_eq hu64 (by rfl)) ?_ ?_ (by rfl) (by rfl) (by rfl)
      · refine e_var (i := 0) (k := .ve .fz) nm_law_raise_0 (by rfl)
      exact e_int
    · refine ss_cons' ?_ ?_
      · refine st_raise (ci := 11) (os := [.fz]) X_WrongMove hr (by decide) (by rfl) (by rfl) tk (gl_by (by kernel_rfl)) ?_ (by simp) (by rfl) (by decide) (by decide +kernel) (by rfl) (by rfl)
        refine a_cons' (o := .fz) (ta := .vw .fz) ?_ ?_ (by rfl) (by rfl)
        · refine e_var (i := 1) (k := .ve .fz) nm_law_raise_1 (by rfl)
        exact a_nil'
      exact ss_nil'
    exact ss_nil'
  refine ss_cons' ?_ ?_
  · refine st_if' ?_ ?_ ?_
    · refine t_cmp' (ta := .vw .fz) (tb := .vw .fz) (o_eq hu64 (by rfl)) ?_ ?_ (by rfl) (by rfl) (by rfl)
      · refine e_var (i := 0) (k := .ve .fz) nm_law_raise_0 (by rfl)
      exact e_int
    · refine ss_cons' ?_ ?_
      · refine st_raise (ci := 12) (os := [.fz]) X_BadRun hr (by decide) (by rfl) (by rfl) tk (gl_by (by kernel_rfl)) ?_ (by simp) (by rfl) (by decide) (by decide +kernel) (by rfl) (by rfl)
        refine a_cons' (o := .fz) (ta := .vw .fz) ?_ ?_ (by rfl) (by rfl)
        · refine e_var (i := 1) (k := .ve .fz) nm_law_raise_1 (by rfl)
        exact a_nil'
      exact ss_nil'
    exact ss_nil'
  refine ss_cons' ?_ ?_
  · refine st_if' ?_ ?_ ?_
    · refine t_cmp' (ta := .vw .fz) (tb := .vw .fz) (o_eq hu64 (by rfl)) ?_ ?_ (by rfl) (by rfl) (by rfl)
      · refine e_var (i := 0) (k := .ve .fz) nm_law_raise_0 (by rfl)
      exact e_int
    · refine ss_cons' ?_ ?_
      · refine st_raise (ci := 13) (os := [.fz]) X_NoThread hr (by decide) (by rfl) (by rfl) tk (gl_by (by kernel_rfl)) ?_ (by simp) (by rfl) (by decide) (by decide +kernel) (by rfl) (by rfl)
        refine a_cons' (o := .fz) (ta := .vw .fz) ?_ ?_ (by rfl) (by rfl)
        · refine e_var (i := 1) (k := .ve .fz) nm_law_raise_1 (by rfl)
        exact a_nil'
      exact ss_nil'
    exact ss_nil'
  refine ss_cons' ?_ ?_
  · refine st_if' ?_ ?_ ?_
    · refine t_cmp' (ta := .vw .fz) (tb := .vw .fz) (o_eq hu64 (by rfl)) ?_ ?_ (by rfl) (by rfl) (by rfl)
      · refine e_var (i := 0) (k := .ve .fz) nm_law_raise_0 (by rfl)
      exact e_int
    · refine ss_cons' ?_ ?_
      · refine st_raise (ci := 14) (os := [.fz, .fz]) X_MustWait hr (by decide) (by rfl) (by rfl) tk (gl_by (by kernel_rfl)) ?_ (by simp) (by rfl) (by decide) (by decide +kernel) (by rfl) (by rfl)
        refine a_cons' (o := .fz) (ta := .vw .fz) ?_ ?_ (by rfl) (by rfl)
        · refine e_var (i := 1) (k := .ve .fz) nm_law_raise_1 (by rfl)
        refine a_cons' (o := .fz) (ta := .vw .fz) ?_ ?_ (by rfl) (by rfl)
        · refine e_var (i := 2) (k := .ve .fz) nm_law_raise_2 (by rfl)
        exact a_nil'
      exact ss_nil'
    exact ss_nil'
  refine ss_cons' ?_ ?_
  · refine st_if' ?_ ?_ ?_
    · refine t_cmp' (ta := .vw .fz) (tb := .vw .fz) (o_eq hu64 (by rfl)) ?_ ?_ (by rfl) (by rfl) (by rfl)
      · refine e_var (i := 0) (k := .ve .fz) nm_law_raise_0 (by rfl)
      exact e_int
    · refine ss_cons' ?_ ?_
      · refine st_raise (ci := 15) (os := [.fz]) X_Refused hr (by decide) (by rfl) (by rfl) tk (gl_by (by kernel_rfl)) ?_ (by simp) (by rfl) (by decide) (by decide +kernel) (by rfl) (by rfl)
        refine a_cons' (o := .fz) (ta := .vw .fz) ?_ ?_ (by rfl) (by rfl)
        · refine e_var (i := 1) (k := .ve .fz) nm_law_raise_1 (by rfl)
        exact a_nil'
      exact ss_nil'
    exact ss_nil'
  refine ss_cons' ?_ ?_
  · refine st_if' ?_ ?_ ?_
    · refine t_cmp' (ta := .vw .fz) (tb := .vw .fz) (o_eq hu64 (by rfl)) ?_ ?_ (by rfl) (by rfl) (by rfl)
      · refine e_var (i := 0) (k := .ve .fz) nm_law_raise_0 (by rfl)
      exact e_int
    · refine ss_cons' ?_ ?_
      · refine st_raise (ci := 16) (os := [.fz]) X_Deadlocked hr (by decide) (by rfl) (by rfl) tk (gl_by (by kernel_rfl)) ?_ (by simp) (by rfl) (by decide) (by decide +kernel) (by rfl) (by rfl)
        refine a_cons' (o := .fz) (ta := .vw .fz) ?_ ?_ (by rfl) (by rfl)
        · refine e_var (i := 1) (k := .ve .fz) nm_law_raise_1 (by rfl)
        exact a_nil'
      exact ss_nil'
    exact ss_nil'
  refine ss_cons' ?_ ?_
  · refine st_if' ?_ ?_ ?_
    · refine t_cmp' (ta := .vw .fz) (tb := .vw .fz) (o_eq hu64 (by rfl)) ?_ ?_ (by rfl) (by rfl) (by rfl)
      · refine e_var (i := 0) (k := .ve .fz) nm_law_raise_0 (by rfl)
      exact e_int
    · refine ss_cons' ?_ ?_
      · refine st_raise (ci := 17) (os := [.fz]) X_NoRequest hr (by decide) (by rfl) (by rfl) tk (gl_by (by kernel_rfl)) ?_ (by simp) (by rfl) (by decide) (by decide +kernel) (by rfl) (by rfl)
        refine a_cons' (o := .fz) (ta := .vw .fz) ?_ ?_ (by rfl) (by rfl)
        · refine e_var (i := 1) (k := .ve .fz) nm_law_raise_1 (by rfl)
        exact a_nil'
      exact ss_nil'
    exact ss_nil'
  refine ss_cons' ?_ ?_
  · refine st_if' ?_ ?_ ?_
    · refine t_cmp' (ta := .vw .fz) (tb := .vw .fz) (o_eq hu64 (by rfl)) ?_ ?_ (by rfl) (by rfl) (by rfl)
      · refine e_var (i := 0) (k := .ve .fz) nm_law_raise_0 (by rfl)
      exact e_int
    · refine ss_cons' ?_ ?_
      · refine st_raise (ci := 18) (os := [.fz]) X_NoContext hr (by decide) (by rfl) (by rfl) tk (gl_by (by kernel_rfl)) ?_ (by simp) (by rfl) (by decide) (by decide +kernel) (by rfl) (by rfl)
        refine a_cons' (o := .fz) (ta := .vw .fz) ?_ ?_ (by rfl) (by rfl)
        · refine e_var (i := 1) (k := .ve .fz) nm_law_raise_1 (by rfl)
        exact a_nil'
      exact ss_nil'
    exact ss_nil'
  refine ss_cons' ?_ ?_
  · refine st_if' ?_ ?_ ?_
    · refine t_cmp' (ta := .vw .fz) (tb := .vw .fz) (o_eq hu64 (by rfl)) ?_ ?_ (by rfl) (by rfl) (by rfl)
      · refine e_var (i := 0) (k := .ve .fz) nm_law_raise_0 (by rfl)
      exact e_int
    · refine ss_cons' ?_ ?_
      · refine st_raiseO0 (ci := 19) T.xo_NoRunCycle (by rfl) (by rfl) tk (gl_by (by kernel_rfl)) (by rfl) (by decide +kernel)
      exact ss_nil'
    exact ss_nil'
  refine ss_cons' ?_ ?_
  · refine st_if' ?_ ?_ ?_
    · refine t_cmp' (ta := .vw .fz) (tb := .vw .fz) (o_eq hu64 (by rfl)) ?_ ?_ (by rfl) (by rfl) (by rfl)
      · refine e_var (i := 0) (k := .ve .fz) nm_law_raise_0 (by rfl)
      exact e_int
    · refine ss_cons' ?_ ?_
      · refine st_raise (ci := 20) (os := [.fz]) X_Clash hr (by decide) (by rfl) (by rfl) tk (gl_by (by kernel_rfl)) ?_ (by simp) (by rfl) (by decide) (by decide +kernel) (by rfl) (by rfl)
        refine a_cons' (o := .fz) (ta := .vw .fz) ?_ ?_ (by rfl) (by rfl)
        · refine e_var (i := 1) (k := .ve .fz) nm_law_raise_1 (by rfl)
        exact a_nil'
      exact ss_nil'
    exact ss_nil'
  refine ss_cons' ?_ ?_
  · refine st_if' ?_ ?_ ?_
    · refine t_cmp' (ta := .vw .fz) (tb := .vw .fz) (o_eq hu64 (by rfl)) ?_ ?_ (by rfl) (by rfl) (by rfl)
      · refine e_var (i := 0) (k := .ve .fz) nm_law_raise_0 (by rfl)
      exact e_int
    · refine ss_cons' ?_ ?_
      · refine st_raise (ci := 21) (os := [.fz]) X_NoLockOrder hr (by decide) (by rfl) (by rfl) tk (gl_by (by kernel_rfl)) ?_ (by simp) (by rfl) (by decide) (by decide +kernel) (by rfl) (by rfl)
        refine a_cons' (o := .fz) (ta := .vw .fz) ?_ ?_ (by rfl) (by rfl)
        · refine e_var (i := 1) (k := .ve .fz) nm_law_raise_1 (by rfl)
        exact a_nil'
      exact ss_nil'
    exact ss_nil'
  refine ss_cons' ?_ ?_
  · refine st_raise (ci := 0) (os := [.fz]) X_LineError hr (by decide) (by rfl) (by rfl) tk (gl_by (by kernel_rfl)) ?_ (by simp) (by rfl) (by decide) (by decide +kernel) (by rfl) (by rfl)
    refine a_cons' (o := .fz) (ta := .vw .fz) ?_ ?_ (by rfl) (by rfl)
    · refine e_var (i := 1) (k := .ve .fz) nm_law_raise_1 (by rfl)
    exact a_nil'
  exact ss_nil'
theorem ok_law_raise {P : Program} {w : World} {K : PySem.W.Frag} {mg : Str → Option Value} {base : Heap} {f : Addr} {fd : FuncData} (T : Fx w K mg) (X_BadForm : XMk P w K mg base 1 1) (X_Misplaced : XMk P w K mg base 2 1) (X_Duplicate : XMk P w K mg base 3 1) (X_Unknown : XMk P w K mg base 4 1) (X_NotNested : XMk P w K mg base 5 1) (X_TooMany : XMk P w K mg base 6 1) (X_TooLong : XMk P w K mg base 7 1) (X_NoName : XMk P w K mg base 8 1) (X_Repeated : XMk P w K mg base 9 1) (X_WrongMove : XMk P w K mg base 11 1) (X_BadRun : XMk P w K mg base 12 1) (X_NoThread : XMk P w K mg base 13 1) (X_MustWait : XMk P w K mg base 14 1) (X_Refused : XMk P w K mg base 15 1) (X_Deadlocked : XMk P w K mg base 16 1) (X_NoRequest : XMk P w K mg base 17 1) (X_NoContext : XMk P w K mg base 18 1) (X_Clash : XMk P w K mg base 20 1) (X_NoLockOrder : XMk P w K mg base 21 1) (X_LineError : XMk P w K mg base 0 1) (D : FunD K "_law_raise" "_law_raise" (defArgs (top 29)) (defBody (top 29)) (defScope (top 29)) [] [] f fd) (hm : mg "_law_raise" = some (.ref f)) : Cal P w K mg base "_law_raise" 3 sg_law_raise φ_law_raise := ⟨⟨f, fd, ["k", "one", "two"], def_ok D sc_law_raise rfl rfl (by decide) rfl (body_law_raise T X_BadForm X_Misplaced X_Duplicate X_Unknown X_NotNested X_TooMany X_TooLong X_NoName X_Repeated X_WrongMove X_BadRun X_NoThread X_MustWait X_Refused X_Deadlocked X_NoRequest X_NoContext X_Clash X_NoLockOrder X_LineError), hm, D.kp, D.bindsN fun _ _ _ _ _ _ us hl => match us, hl with | [_, _, _], _ => rfl⟩⟩
abbrev S_law_kinds : Scope := defScope (top 30)
abbrev N_law_kinds : List Str := ["k", "one", "two", "kinds", "e"]
abbrev K_law_kinds : List Kd := [.ve .fz, .ve .fz, .ve .fz, .ve .fz, .ve .fz]
theorem sc_law_kinds : FnScope N_law_kinds ["k", "one", "two"] S_law_kinds := ⟨rfl, rfl, rfl, by decide +kernel, rfl, by decide +kernel, by decide +kernel⟩
theorem nd_law_kinds : N_law_kinds.Nodup := sc_law_kinds.nd
theorem nm_law_kinds_0 : Nm N_law_kinds S_law_kinds 0 "k" := nm_by (by kernel_rfl)
theorem lo_law_kinds_0 : Lo N_law_kinds S_law_kinds 0 "k" := lo_by (by kernel_rfl)
theorem nm_law_kinds_1 : Nm N_law_kinds S_law_kinds 1 "one" := nm_by (by kernel_rfl)
theorem lo_law_kinds_1 : Lo N_law_kinds S_law_kinds 1 "one" := lo_by (by kernel_rfl)
theorem nm_law_kinds_2 : Nm N_law_kinds S_law_kinds 2 "two" := nm_by (by kernel_rfl)
theorem lo_law_kinds_2 : Lo N_law_kinds S_law_kinds 2 "two" := lo_by (by kernel_rfl)
theorem nm_law_kinds_3 : Nm N_law_kinds S_law_kinds 3 "kinds" := nm_by (by kernel_rfl)
theorem lo_law_kinds_3 : Lo N_law_kinds S_law_kinds 3 "kinds" := lo_by (by kernel_rfl)
theorem nm_law_kinds_4 : Nm N_law_kinds S_law_kinds 4 "e" := nm_by (by kernel_rfl)
theorem lo_law_kinds_4 : Lo N_law_kinds S_law_kinds 4 "e" := lo_by (by kernel_rfl)
def g_law_kinds : So := (sSeq (sSet 3 (fLst lNil))
  (sSeq (sTry1 (sSeq (sEx (fCall φ_law_raise (lCons (evVar 0) (lCons (evVar 1) (lCons (evVar 2) lNil)))))
  sNx) [(0, true), (1, true), (2, true), (3, true), (4, true), (5, true), (6, true), (7, true), (8, true), (9, true), (10, true), (11, true), (12, true), (13, true), (14, true), (15, true), (16, true), (17, true), (18, true), (19, true), (20, true), (21, true)] 4 (fun x1 => (sSeq (sSet 3 (fLst (lCons (fXi 4 [(0, true), (1, true), (2, true), (3, true), (4, true), (5, true), (6, true), (7, true), (8, false), (9, false), (10, false), (11, false), (12, false), (13, false), (14, false), (15, false), (16, false), (17, false), (18, false), (19, false), (20, false), (21, false)] x1) (lCons (fXi 4 [(0, false), (1, true), (2, false), (3, false), (4, false), (5, false), (6, false), (7, false), (8, false), (9, false), (10, false), (11, false), (12, false), (13, false), (14, false), (15, false), (16, false), (17, false), (18, false), (19, false), (20, false), (21, false)] x1) (lCons (fXi 4 [(0, false), (1, false), (2, true), (3, false), (4, false), (5, false), (6, false), (7, false), (8, false), (9, false), (10, false), (11, false), (12, false), (13, false), (14, false), (15, false), (16, false), (17, false), (18, false), (19, false), (20, false), (21, false)] x1) (lCons (fXi 4 [(0, false), (1, false), (2, false), (3, true), (4, false), (5, false), (6, false), (7, false), (8, false), (9, false), (10, false), (11, false), (12, false), (13, false), (14, false), (15, false), (16, false), (17, false), (18, false), (19, false), (20, false), (21, false)] x1) (lCons (fXi 4 [(0, false), (1, false), (2, false), (3, false), (4, true), (5, false), (6, false), (7, false), (8, false), (9, false), (10, false), (11, false), (12, false), (13, false), (14, false), (15, false), (16, false), (17, false), (18, false), (19, false), (20, false), (21, false)] x1) (lCons (fXi 4 [(0, false), (1, false), (2, false), (3, false), (4, false), (5, true), (6, false), (7, false), (8, false), (9, false), (10, false), (11, false), (12, false), (13, false), (14, false), (15, false), (16, false), (17, false), (18, false), (19, false), (20, false), (21, false)] x1) (lCons (fXi 4 [(0, false), (1, false), (2, false), (3, false), (4, false), (5, false), (6, true), (7, false), (8, false), (9, false), (10, false), (11, false), (12, false), (13, false), (14, false), (15, false), (16, false), (17, false), (18, false), (19, false), (20, false), (21, false)] x1) (lCons (fXi 4 [(0, false), (1, false), (2, false), (3, false), (4, false), (5, false), (6, false), (7, true), (8, false), (9, false), (10, false), (11, false), (12, false), (13, false), (14, false), (15, false), (16, false), (17, false), (18, false), (19, false), (20, false), (21, false)] x1) (lCons (fXi 4 [(0, false), (1, false), (2, false), (3, false), (4, false), (5, false), (6, false), (7, false), (8, true), (9, false), (10, false), (11, false), (12, false), (13, false), (14, false), (15, false), (16, false), (17, false), (18, false), (19, false), (20, false), (21, false)] x1) (lCons (fXi 4 [(0, false), (1, false), (2, false), (3, false), (4, false), (5, false), (6, false), (7, false), (8, false), (9, true), (10, false), (11, false), (12, false), (13, false), (14, false), (15, false), (16, false), (17, false), (18, false), (19, false), (20, false), (21, false)] x1) (lCons (fXi 4 [(0, false), (1, false), (2, false), (3, false), (4, false), (5, false), (6, false), (7, false), (8, false), (9, false), (10, true), (11, false), (12, false), (13, false), (14, false), (15, false), (16, false), (17, false), (18, false), (19, false), (20, false), (21, false)] x1) (lCons (fXi 4 [(0, false), (1, false), (2, false), (3, false), (4, false), (5, false), (6, false), (7, false), (8, false), (9, false), (10, false), (11, true), (12, false), (13, false), (14, false), (15, false), (16, false), (17, false), (18, false), (19, false), (20, false), (21, false)] x1) (lCons (fXi 4 [(0, false), (1, false), (2, false), (3, false), (4, false), (5, false), (6, false), (7, false), (8, false), (9, false), (10, false), (11, false), (12, true), (13, false), (14, false), (15, false), (16, false), (17, false), (18, false), (19, false), (20, false), (21, false)] x1) (lCons (fXi 4 [(0, false), (1, false), (2, false), (3, false), (4, false), (5, false), (6, false), (7, false), (8, false), (9, false), (10, false), (11, false), (12, false), (13, true), (14, false), (15, false), (16, false), (17, false), (18, false), (19, false), (20, false), (21, false)] x1) (lCons (fXi 4 [(0, false), (1, false), (2, false), (3, false), (4, false), (5, false), (6, false), (7, false), (8, false), (9, false), (10, false), (11, false), (12, false), (13, false), (14, true), (15, false), (16, false), (17, false), (18, false), (19, false), (20, false), (21, false)] x1) (lCons (fXi 4 [(0, false), (1, false), (2, false), (3, false), (4, false), (5, false), (6, false), (7, false), (8, false), (9, false), (10, false), (11, false), (12, false), (13, false), (14, false), (15, true), (16, false), (17, false), (18, false), (19, false), (20, false), (21, false)] x1) (lCons (fXi 4 [(0, false), (1, false), (2, false), (3, false), (4, false), (5, false), (6, false), (7, false), (8, false), (9, false), (10, false), (11, false), (12, false), (13, false), (14, false), (15, false), (16, true), (17, false), (18, false), (19, false), (20, false), (21, false)] x1) (lCons (fXi 4 [(0, false), (1, false), (2, false), (3, false), (4, false), (5, false), (6, false), (7, false), (8, false), (9, false), (10, false), (11, false), (12, false), (13, false), (14, false), (15, false), (16, false), (17, true), (18, false), (19, false), (20, false), (21, false)] x1) (lCons (fXi 4 [(0, false), (1, false), (2, false), (3, false), (4, false), (5, false), (6, false), (7, false), (8, false), (9, false), (10, false), (11, false), (12, false), (13, false), (14, false), (15, false), (16, false), (17, false), (18, true), (19, false), (20, false), (21, false)] x1) (lCons (fXi 4 [(0, false), (1, false), (2, false), (3, false), (4, false), (5, false), (6, false), (7, false), (8, false), (9, false), (10, false), (11, false), (12, false), (13, false), (14, false), (15, false), (16, false), (17, false), (18, false), (19, true), (20, false), (21, false)] x1) (lCons (fXi 4 [(0, false), (1, false), (2, false), (3, false), (4, false), (5, false), (6, false), (7, false), (8, false), (9, false), (10, false), (11, false), (12, false), (13, false), (14, false), (15, false), (16, false), (17, false), (18, false), (19, false), (20, true), (21, false)] x1) (lCons (fXi 4 [(0, false), (1, false), (2, false), (3, false), (4, false), (5, false), (6, false), (7, false), (8, false), (9, false), (10, false), (11, false), (12, false), (13, false), (14, false), (15, false), (16, false), (17, false), (18, false), (19, false), (20, false), (21, true)] x1) (lCons (fXi 4 [(0, true), (1, true), (2, true), (3, true), (4, true), (5, true), (6, true), (7, true), (8, true), (9, true), (10, true), (11, true), (12, true), (13, true), (14, true), (15, true), (16, true), (17, true), (18, true), (19, true), (20, true), (21, true)] x1) lNil)))))))))))))))))))))))))
  sNx)))
  (sSeq (sRet (evVar 3))
  sNx)))
abbrev sg_law_kinds : Sig := ⟨[.fz, .fz, .fz], .vw .fz⟩
def φ_law_kinds : Fn := defF (.vw .fz) 5 g_law_kinds
theorem body_law_kinds {P : Program} {w : World} {K : PySem.W.Frag} {mg : Str → Option Value} {base : Heap} {f : Addr} (T : Fx w K mg) (C__law_raise : Cal P w K mg base "_law_raise" 3 sg_law_raise φ_law_raise) : BodyOk P w K mg base N_law_kinds "_law_kinds" S_law_kinds f 3 K_law_kinds (.vw .fz) (defBody (top 30)) g_law_kinds := by
  intro cdv A outer s H E c hr hK hKs tk
  obtain ⟨K', Ks', F0, G, W⟩ := c
  cases hK
  cases hKs
  have hun := hr.un
  have hu1 : (A.deeper (envOfC "_law_kinds" S_law_kinds s.heap.objs.size f cdv)).units + 1 < cLine := by omega
  have hu64 : (A.deeper (envOfC "_law_kinds" S_law_kinds s.heap.objs.size f cdv)).units + 64 < cLine := by omega
  have hu65 : (A.deeper (envOfC "_law_kinds" S_law_kinds s.heap.objs.size f cdv)).units + 65 < cLine := by omega
  refine ss_cons' ?_ ?_
  · refine e_set' (ta := .vw .fz) (i := 3) lo_law_kinds_3 (by rfl) ?_ (by rfl) (by exact .inl rfl) (by rfl)
    refine s_fz (ta := .fr (.lst .fz)) ?_ (by rfl)
    refine s_lst' (os := []) ?_ (by simp) (by decide)
    exact a_nil'
  refine ss_cons' ?_ ?_
  · refine st_try1 (i := 4) (tb := [(0, true), (1, true), (2, true), (3, true), (4, true), (5, true), (6, true), (7, true), (8, true), (9, true), (10, true), (11, true), (12, true), (13, true), (14, true), (15, true), (16, true), (17, true), (18, true), (19, true), (20, true), (21, true)]) (h := fun x1 => (sSeq (sSet 3 (fLst (lCons (fXi 4 [(0, true), (1, true), (2, true), (3, true), (4, true), (5, true), (6, true), (7, true), (8, false), (9, false), (10, false), (11, false), (12, false), (13, false), (14, false), (15, false), (16, false), (17, false), (18, false), (19, false), (20, false), (21, false)] x1) (lCons (fXi 4 [(0, false), (1, true), (2, false), (3, false), (4, false), (5, false), (6, false), (7, false), (8, false), (9, false), (10, false), (11, false), (12, false), (13, false), (14, false), (15, false), (16, false), (17, false), (18, false), (19, false), (20, false), (21, false)] x1) (lCons (fXi 4 [(0, false), (1, false), (2, true), (3, false), (4, false), (5, false), (6, false), (7, false), (8, false), (9, false), (10, false), (11, false), (12, false), (13, false), (14, false), (15, false), (16, false), (17, false), (18, false), (19, false), (20, false), (21, false)] x1) (lCons (fXi 4 [(0, false), (1, false), (2, false), (3, true), (4, false), (5, false), (6, false), (7, false), (8, false), (9, false), (10, false), (11, false), (12, false), (13, false), (14, false), (15, false), (16, false), (17, false), (18, false), (19, false), (20, false), (21, false)] x1) (lCons (fXi 4 [(0, false), (1, false), (2, false), (3, false), (4, true), (5, false), (6, false), (7, false), (8, false), (9, false), (10, false), (11, false), (12, false), (13, false), (14, false), (15, false), (16, false), (17, false), (18, false), (19, false), (20, false), (21, false)] x1) (lCons (fXi 4 [(0, false), (1, false), (2, false), (3, false), (4, false), (5, true), (6, false), (7, false), (8, false), (9, false), (10, false), (11, false), (12, false), (13, false), (14, false), (15, false), (16, false), (17, false), (18, false), (19, false), (20, false), (21, false)] x1) (lCons (fXi 4 [(0, false), (1, false), (2, false), (3, false), (4, false), (5, false), (6, true), (7, false), (8, false), (9, false), (10, false), (11, false), (12, false), (13, false), (14, false), (15, false), (16, false), (17, false), (18, false), (19, false), (20, false), (21, false)] x1) (lCons (fXi 4 [(0, false), (1, false), (2, false), (3, false), (4, false), (5, false), (6, false), (7, true), (8, false), (9, false), (10, false), (11, false), (12, false), (13, false), (14, false), (15, false), (16, false), (17, false), (18, false), (19, false), (20, false), (21, false)] x1) (lCons (fXi 4 [(0, false), (1, false), (2, false), (3, false), (4, false), (5, false), (6, false), (7, false), (8, true), (9, false), (10, false), (11, false), (12, false), (13, false), (14, false), (15, false), (16, false), (17, false), (18, false), (19, false), (20, false), (21, false)] x1) (lCons (fXi 4 [(0, false), (1, false), (2, false), (3, false), (4, false), (5, false), (6, false), (7, false), (8, false), (9, true), (10, false), (11, false), (12, false), (13, false), (14, false), (15, false), (16, false), (17, false), (18, false), (19, false), (20, false), (21, false)] x1) (lCons (fXi 4 [(0, false), (1, false), (2, false), (3, false), (4, false), (5, false), (6, false), (7, false), (8, false), (9, false), (10, true), (11, false), (12, false), (13, false), (14, false), (15, false), (16, false), (17, false), (18, false), (19, false), (20, false), (21, false)] x1) (lCons (fXi 4 [(0, false), (1, false), (2, false), (3, false), (4, false), (5, false), (6, false), (7, false), (8, false), (9, false), (10, false), (11, true), (12, false), (13, false), (14, false), (15, false), (16, false), (17, false), (18, false), (19, false), (20, false), (21, false)] x1) (lCons (fXi 4 [(0, false), (1, false), (2, false), (3, false), (4, false), (5, false), (6, false), (7, false), (8, false), (9, false), (10, false), (11, false), (12, true), (13, false), (14, false), (15, false), (16, false), (17, false), (18, false), (19, false), (20, false), (21, false)] x1) (lCons (fXi 4 [(0, false), (1, false), (2, false), (3, false), (4, false), (5, false), (6, false), (7, false), (8, false), (9, false), (10, false), (11, false), (12, false), (13, true), (14, false), (15, false), (16, false), (17, false), (18, false), (19, false), (20, false), (21, false)] x1) (lCons (fXi 4 [(0, false), (1, false), (2, false), (3, false), (4, false), (5, false), (6, false), (7, false), (8, false), (9, false), (10, false), (11, false), (12, false), (13, false), (14, true), (15, false), (16, false), (17, false), (18, false), (19, false), (20, false), (21, false)] x1) (lCons (fXi 4 [(0, false), (1, false), (2, false), (3, false), (4, false), (5, false), (6, false), (7, false), (8, false), (9, false), (10, false), (11, false), (12, false), (13, false), (14, false), (15, true), (16, false), (17, false), (18, false), (19, false), (20, false), (21, false)] x1) (lCons (fXi 4 [(0, false), (1, false), (2, false), (3, false), (4, false), (5, false), (6, false), (7, false), (8, false), (9, false), (10, false), (11, false), (12, false), (13, false), (14, false), (15, false), (16, true), (17, false), (18, false), (19, false), (20, false), (21, false)] x1) (lCons (fXi 4 [(0, false), (1, false), (2, false), (3, false), (4, false), (5, false), (6, false), (7, false), (8, false), (9, false), (10, false), (11, false), (12, false), (13, false), (14, false), (15, false), (16, false), (17, true), (18, false), (19, false), (20, false), (21, false)] x1) (lCons (fXi 4 [(0, false), (1, false), (2, false), (3, false), (4, false), (5, false), (6, false), (7, false), (8, false), (9, false), (10, false), (11, false), (12, false), (13, false), (14, false), (15, false), (16, false), (17, false), (18, true), (19, false), (20, false), (21, false)] x1) (lCons (fXi 4 [(0, false), (1, false), (2, false), (3, false), (4, false), (5, false), (6, false), (7, false), (8, false), (9, false), (10, false), (11, false), (12, false), (13, false), (14, false), (15, false), (16, false), (17, false), (18, false), (19, true), (20, false), (21, false)] x1) (lCons (fXi 4 [(0, false), (1, false), (2, false), (3, false), (4, false), (5, false), (6, false), (7, false), (8, false), (9, false), (10, false), (11, false), (12, false), (13, false), (14, false), (15, false), (16, false), (17, false), (18, false), (19, false), (20, true), (21, false)] x1) (lCons (fXi 4 [(0, false), (1, false), (2, false), (3, false), (4, false), (5, false), (6, false), (7, false), (8, false), (9, false), (10, false), (11, false), (12, false), (13, false), (14, false), (15, false), (16, false), (17, false), (18, false), (19, false), (20, false), (21, true)] x1) (lCons (fXi 4 [(0, true), (1, true), (2, true), (3, true), (4, true), (5, true), (6, true), (7, true), (8, true), (9, true), (10, true), (11, true), (12, true), (13, true), (14, true), (15, true), (16, true), (17, true), (18, true), (19, true), (20, true), (21, true)] x1) lNil))))))))))))))))))))))))) sNx)) (by rfl) (by rfl) lo_law_kinds_4 (by rfl) (names_gl (gl_by (by kernel_rfl)) (by decide +kernel) T.g_HeldError) tk (by rfl) (lt_len (n := 5) (by decide) (by rfl)) T.m_HeldError ?_ ?_
    · intro W1 pn1 xe1 tk hp1
      refine ss_cons' ?_ ?_
      · refine st_expr' (ta := .vw .fz) ?_ (by rfl)
        refine e_call' C__law_raise hr (by decide) (by rfl) (gl_by (by kernel_rfl)) tk ?_ (by decide +kernel) (by rfl) (by rfl) (by rfl)
        refine a_cons' (o := .fz) (ta := .vw .fz) ?_ ?_ (by rfl) (by rfl)
        · refine e_var (i := 0) (k := .ve .fz) nm_law_kinds_0 (by rfl)
        refine a_cons' (o := .fz) (ta := .vw .fz) ?_ ?_ (by rfl) (by rfl)
        · refine e_var (i := 1) (k := .ve .fz) nm_law_kinds_1 (by rfl)
        refine a_cons' (o := .fz) (ta := .vw .fz) ?_ ?_ (by rfl) (by rfl)
        · refine e_var (i := 2) (k := .ve .fz) nm_law_kinds_2 (by rfl)
        exact a_nil'
      exact ss_nil'
    intro x1 a1 o1 d1 pn1 F1 hm1 hz1 hd1 xr1
    refine ss_cons' ?_ ?_
    · refine e_set' (ta := .vw .fz) (i := 3) lo_law_kinds_3 (by rfl) ?_ (by rfl) (by exact .inl rfl) (by rfl)
      refine s_fz (ta := .fr (.lst .fz)) ?_ (by rfl)
      refine s_lst' (os := [.fz, .fz, .fz, .fz, .fz, .fz, .fz, .fz, .fz, .fz, .fz, .fz, .fz, .fz, .fz, .fz, .fz, .fz, .fz, .fz, .fz, .fz, .fz]) ?_ (by simp) (by decide)
      refine a_cons' (o := .fz) (ta := .vw .fz) ?_ ?_ (by rfl) (by rfl)
      · refine e_xisG (tb := [(0, true), (1, true), (2, true), (3, true), (4, true), (5, true), (6, true), (7, true), (8, false), (9, false), (10, false), (11, false), (12, false), (13, false), (14, false), (15, false), (16, false), (17, false), (18, false), (19, false), (20, false), (21, false)]) T.ki_LineError (gl_by (by kernel_rfl)) T.g_LineError (by decide +kernel) (xc_mem T.xc (by rfl) hm1) hz1 hd1 xr1 (by rfl) nm_law_kinds_4 (lt_len (n := 5) (by decide) (by rfl)) ⟨gl_by (by kernel_rfl), T.b_isinstance⟩ (by rfl) (by decide +kernel) (by decide +kernel) (by rfl) (by rfl)
      refine a_cons' (o := .fz) (ta := .vw .fz) ?_ ?_ (by rfl) (by rfl)
      · refine e_xisG (tb := [(0, false), (1, true), (2, false), (3, false), (4, false), (5, false), (6, false), (7, false), (8, false), (9, false), (10, false), (11, false), (12, false), (13, false), (14, false), (15, false), (16, false), (17, false), (18, false), (19, false), (20, false), (21, false)]) T.ki_BadForm (gl_by (by kernel_rfl)) T.g_BadForm (by decide +kernel) (xc_mem T.xc (by rfl) hm1) hz1 hd1 xr1 (by rfl) nm_law_kinds_4 (lt_len (n := 5) (by decide) (by rfl)) ⟨gl_by (by kernel_rfl), T.b_isinstance⟩ (by rfl) (by decide +kernel) (by decide +kernel) (by rfl) (by rfl)
      refine a_cons' (o := .fz) (ta := .vw .fz) ?_ ?_ (by rfl) (by rfl)
      · refine e_xisG (tb := [(0, false), (1, false), (2, true), (3, false), (4, false), (5, false), (6, false), (7, false), (8, false), (9, false), (10, false), (11, false), (12, false), (13, false), (14, false), (15, false), (16, false), (17, false), (18, false), (19, false), (20, false), (21, false)]) T.ki_Misplaced (gl_by (by kernel_rfl)) T.g_Misplaced (by decide +kernel) (xc_mem T.xc (by rfl) hm1) hz1 hd1 xr1 (by rfl) nm_law_kinds_4 (lt_len (n := 5) (by decide) (by rfl)) ⟨gl_by (by kernel_rfl), T.b_isinstance⟩ (by rfl) (by decide +kernel) (by decide +kernel) (by rfl) (by rfl)
      refine a_cons' (o := .fz) (ta := .vw .fz) ?_ ?_ (by rfl) (by rfl)
      · refine e_xisG (tb := [(0, false), (1, false), (2, false), (3, true), (4, false), (5, false), (6, false), (7, false), (8, false), (9, false), (10, false), (11, false), (12, false), (13, false), (14, false), (15, false), (16, false), (17, false), (18, false), (19, false), (20, false), (21, false)]) T.ki_Duplicate (gl_by (by kernel_rfl)) T.g_Duplicate (by decide +kernel) (xc_mem T.xc (by rfl) hm1) hz1 hd1 xr1 (by rfl) nm_law_kinds_4 (lt_len (n := 5) (by decide) (by rfl)) ⟨gl_by (by kernel_rfl), T.b_isinstance⟩ (by rfl) (by decide +kernel) (by decide +kernel) (by rfl) (by rfl)
      refine a_cons' (o := .fz) (ta := .vw .fz) ?_ ?_ (by rfl) (by rfl)
      · refine e_xisG (tb := [(0, false), (1, false), (2, false), (3, false), (4, true), (5, false), (6, false), (7, false), (8, false), (9, false), (10, false), (11, false), (12, false), (13, false), (14, false), (15, false), (16, false), (17, false), (18, false), (19, false), (20, false), (21, false)]) T.ki_Unknown (gl_by (by kernel_rfl)) T.g_Unknown (by decide +kernel) (xc_mem T.xc (by rfl) hm1) hz1 hd1 xr1 (by rfl) nm_law_kinds_4 (lt_len (n := 5) (by decide) (by rfl)) ⟨gl_by (by kernel_rfl), T.b_isinstance⟩ (by rfl) (by decide +kernel) (by decide +kernel) (by rfl) (by rfl)
      refine a_cons' (o := .fz) (ta := .vw .fz) ?_ ?_ (by rfl) (by rfl)
      · refine e_xisG (tb := [(0, false), (1, false), (2, false), (3, false), (4, false), (5, true), (6, false), (7, false), (8, false), (9, false), (10, false), (11, false), (12, false), (13, false), (14, false), (15, false), (16, false), (17, false), (18, false), (19, false), (20, false), (21, false)]) T.ki_NotNested (gl_by (by kernel_rfl)) T.g_NotNested (by decide +kernel) (xc_mem T.xc (by rfl) hm1) hz1 hd1 xr1 (by rfl) nm_law_kinds_4 (lt_len (n := 5) (by decide) (by rfl)) ⟨gl_by (by kernel_rfl), T.b_isinstance⟩ (by rfl) (by decide +kernel) (by decide +kernel) (by rfl) (by rfl)
      refine a_cons' (o := .fz) (ta := .vw .fz) ?_ ?_ (by rfl) (by rfl)
      · refine e_xisG (tb := [(0, false), (1, false), (2, false), (3, false), (4, false), (5, false), (6, true), (7, false), (8, false), (9, false), (10, false), (11, false), (12, false), (13, false), (14, false), (15, false), (16, false), (17, false), (18, false), (19, false), (20, false), (21, false)]) T.ki_TooMany (gl_by (by kernel_rfl)) T.g_TooMany (by decide +kernel) (xc_mem T.xc (by rfl) hm1) hz1 hd1 xr1 (by rfl) nm_law_kinds_4 (lt_len (n := 5) (by decide) (by rfl)) ⟨gl_by (by kernel_rfl), T.b_isinstance⟩ (by rfl) (by decide +kernel) (by decide +kernel) (by rfl) (by rfl)
      refine a_cons' (o := .fz) (ta := .vw .fz) ?_ ?_ (by rfl) (by rfl)
      · refine e_xisG (tb := [(0, false), (1, false), (2, false), (3, false), (4, false), (5, false), (6, false), (7, true), (8, false), (9, false), (10, false), (11, false), (12, false), (13, false), (14, false), (15, false), (16, false), (17, false), (18, false), (19, false), (20, false), (21, false)]) T.ki_TooLong (gl_by (by kernel_rfl)) T.g_TooLong (by decide +kernel) (xc_mem T.xc (by rfl) hm1) hz1 hd1 xr1 (by rfl) nm_law_kinds_4 (lt_len (n := 5) (by decide) (by rfl)) ⟨gl_by (by kernel_rfl), T.b_isinstance⟩ (by rfl) (by decide +kernel) (by decide +kernel) (by rfl) (by rfl)
      refine a_cons' (o := .fz) (ta := .vw .fz) ?_ ?_ (by rfl) (by rfl)
      · refine e_xisG (tb := [(0, false), (1, false), (2, false), (3, false), (4, false), (5, false), (6, false), (7, false), (8, true), (9, false), (10, false), (11, false), (12, false), (13, false), (14, false), (15, false), (16, false), (17, false), (18, false), (19, false), (20, false), (21, false)]) T.ki_NoName (gl_by (by kernel_rfl)) T.g_NoName (by decide +kernel) (xc_mem T.xc (by rfl) hm1) hz1 hd1 xr1 (by rfl) nm_law_kinds_4 (lt_len (n := 5) (by decide) (by rfl)) ⟨gl_by (by kernel_rfl), T.b_isinstance⟩ (by rfl) (by decide +kernel) (by decide +kernel) (by rfl) (by rfl)
      refine a_cons' (o := .fz) (ta := .vw .fz) ?_ ?_ (by rfl) (by rfl)
      · refine e_xisG (tb := [(0, false), (1, false), (2, false), (3, false), (4, false), (5, false), (6, false), (7, false), (8, false), (9, true), (10, false), (11, false), (12, false), (13, false), (14, false), (15, false), (16, false), (17, false), (18, false), (19, false), (20, false), (21, false)]) T.ki_Repeated (gl_by (by kernel_rfl)) T.g_Repeated (by decide +kernel) (xc_mem T.xc (by rfl) hm1) hz1 hd1 xr1 (by rfl) nm_law_kinds_4 (lt_len (n := 5) (by decide) (by rfl)) ⟨gl_by (by kernel_rfl), T.b_isinstance⟩ (by rfl) (by decide +kernel) (by decide +kernel) (by rfl) (by rfl)
      refine a_cons' (o := .fz) (ta := .vw .fz) ?_ ?_ (by rfl) (by rfl)
      · refine e_xisG (tb := [(0, false), (1, false), (2, false), (3, false), (4, false), (5, false), (6, false), (7, false), (8, false), (9, false), (10, true), (11, false), (12, false), (13, false), (14, false), (15, false), (16, false), (17, false), (18, false), (19, false), (20, false), (21, false)]) T.ki_Overfull (gl_by (by kernel_rfl)) T.g_Overfull (by decide +kernel) (xc_mem T.xc (by rfl) hm1) hz1 hd1 xr1 (by rfl) nm_law_kinds_4 (lt_len (n := 5) (by decide) (by rfl)) ⟨gl_by (by kernel_rfl), T.b_isinstance⟩ (by rfl) (by decide +kernel) (by decide +kernel) (by rfl) (by rfl)
      refine a_cons' (o := .fz) (ta := .vw .fz) ?_ ?_ (by rfl) (by rfl)
      · refine e_xisG (tb := [(0, false), (1, false), (2, false), (3, false), (4, false), (5, false), (6, false), (7, false), (8, false), (9, false), (10, false), (11, true), (12, false), (13, false), (14, false), (15, false), (16, false), (17, false), (18, false), (19, false), (20, false), (21, false)]) T.ki_WrongMove (gl_by (by kernel_rfl)) T.g_WrongMove (by decide +kernel) (xc_mem T.xc (by rfl) hm1) hz1 hd1 xr1 (by rfl) nm_law_kinds_4 (lt_len (n := 5) (by decide) (by rfl)) ⟨gl_by (by kernel_rfl), T.b_isinstance⟩ (by rfl) (by decide +kernel) (by decide +kernel) (by rfl) (by rfl)
      refine a_cons' (o := .fz) (ta := .vw .fz) ?_ ?_ (by rfl) (by rfl)
      · refine e_xisG (tb := [(0, false), (1, false), (2, false), (3, false), (4, false), (5, false), (6, false), (7, false), (8, false), (9, false), (10, false), (11, false), (12, true), (13, false), (14, false), (15, false), (16, false), (17, false), (18, false), (19, false), (20, false), (21, false)]) T.ki_BadRun (gl_by (by kernel_rfl)) T.g_BadRun (by decide +kernel) (xc_mem T.xc (by rfl) hm1) hz1 hd1 xr1 (by rfl) nm_law_kinds_4 (lt_len (n := 5) (by decide) (by rfl)) ⟨gl_by (by kernel_rfl), T.b_isinstance⟩ (by rfl) (by decide +kernel) (by decide +kernel) (by rfl) (by rfl)
      refine a_cons' (o := .fz) (ta := .vw .fz) ?_ ?_ (by rfl) (by rfl)
      · refine e_xisG (tb := [(0, false), (1, false), (2, false), (3, false), (4, false), (5, false), (6, false), (7, false), (8, false), (9, false), (10, false), (11, false), (12, false), (13, true), (14, false), (15, false), (16, false), (17, false), (18, false), (19, false), (20, false), (21, false)]) T.ki_NoThread (gl_by (by kernel_rfl)) T.g_NoThread (by decide +kernel) (xc_mem T.xc (by rfl) hm1) hz1 hd1 xr1 (by rfl) nm_law_kinds_4 (lt_len (n := 5) (by decide) (by rfl)) ⟨gl_by (by kernel_rfl), T.b_isinstance⟩ (by rfl) (by decide +kernel) (by decide +kernel) (by rfl) (by rfl)
      refine a_cons' (o := .fz) (ta := .vw .fz) ?_ ?_ (by rfl) (by rfl)
      · refine e_xisG (tb := [(0, false), (1, false), (2, false), (3, false), (4, false), (5, false), (6, false), (7, false), (8, false), (9, false), (10, false), (11, false), (12, false), (13, false), (14, true), (15, false), (16, false), (17, false), (18, false), (19, false), (20, false), (21, false)]) T.ki_MustWait (gl_by (by kernel_rfl)) T.g_MustWait (by decide +kernel) (xc_mem T.xc (by rfl) hm1) hz1 hd1 xr1 (by rfl) nm_law_kinds_4 (lt_len (n := 5) (by decide) (by rfl)) ⟨gl_by (by kernel_rfl), T.b_isinstance⟩ (by rfl) (by decide +kernel) (by decide +kernel) (by rfl) (by rfl)
      refine a_cons' (o := .fz) (ta := .vw .fz) ?_ ?_ (by rfl) (by rfl)
      · refine e_xisG (tb := [(0, false), (1, false), (2, false), (3, false), (4, false), (5, false), (6, false), (7, false), (8, false), (9, false), (10, false), (11, false), (12, false), (13, false), (14, false), (15, true), (16, false), (17, false), (18, false), (19, false), (20, false), (21, false)]) T.ki_Refused (gl_by (by kernel_rfl)) T.g_Refused (by decide +kernel) (xc_mem T.xc (by rfl) hm1) hz1 hd1 xr1 (by rfl) nm_law_kinds_4 (lt_len (n := 5) (by decide) (by rfl)) ⟨gl_by (by kernel_rfl), T.b_isinstance⟩ (by rfl) (by decide +kernel) (by decide +kernel) (by rfl) (by rfl)
      refine a_cons' (o := .fz) (ta := .vw .fz) ?_ ?_ (by rfl) (by rfl)
      · refine e_xisG (tb := [(0, false), (1, false), (2, false), (3, false), (4, false), (5, false), (6, false), (7, false), (8, false), (9, false), (10, false), (11, false), (12, false), (13, false), (14, false), (15, false), (16, true), (17, false), (18, false), (19, false), (20, false), (21, false)]) T.ki_Deadlocked (gl_by (by kernel_rfl)) T.g_Deadlocked (by decide +kernel) (xc_mem T.xc (by rfl) hm1) hz1 hd1 xr1 (by rfl) nm_law_kinds_4 (lt_len (n := 5) (by decide) (by rfl)) ⟨gl_by (by kernel_rfl), T.b_isinstance⟩ (by rfl) (by decide +kernel) (by decide +kernel) (by rfl) (by rfl)
      refine a_cons' (o := .fz) (ta := .vw .fz) ?_ ?_ (by rfl) (by rfl)
      · refine e_xisG (tb := [(0, false), (1, false), (2, false), (3, false), (4, false), (5, false), (6, false), (7, false), (8, false), (9, false), (10, false), (11, false), (12, false), (13, false), (14, false), (15, false), (16, false), (17, true), (18, false), (19, false), (20, false), (21, false)]) T.ki_NoRequest (gl_by (by kernel_rfl)) T.g_NoRequest (by decide +kernel) (xc_mem T.xc (by rfl) hm1) hz1 hd1 xr1 (by rfl) nm_law_kinds_4 (lt_len (n := 5) (by decide) (by rfl)) ⟨gl_by (by kernel_rfl), T.b_isinstance⟩ (by rfl) (by decide +kernel) (by decide +kernel) (by rfl) (by rfl)
      refine a_cons' (o := .fz) (ta := .vw .fz) ?_ ?_ (by rfl) (by rfl)
      · refine e_xisG (tb := [(0, false), (1, false), (2, false), (3, false), (4, false), (5, false), (6, false), (7, false), (8, false), (9, false), (10, false), (11, false), (12, false), (13, false), (14, false), (15, false), (16, false), (17, false), (18, true), (19, false), (20, false), (21, false)]) T.ki_NoContext (gl_by (by kernel_rfl)) T.g_NoContext (by decide +kernel) (xc_mem T.xc (by rfl) hm1) hz1 hd1 xr1 (by rfl) nm_law_kinds_4 (lt_len (n := 5) (by decide) (by rfl)) ⟨gl_by (by kernel_rfl), T.b_isinstance⟩ (by rfl) (by decide +kernel) (by decide +kernel) (by rfl) (by rfl)
      refine a_cons' (o := .fz) (ta := .vw .fz) ?_ ?_ (by rfl) (by rfl)
      · refine e_xisG (tb := [(0, false), (1, false), (2, false), (3, false), (4, false), (5, false), (6, false), (7, false), (8, false), (9, false), (10, false), (11, false), (12, false), (13, false), (14, false), (15, false), (16, false), (17, false), (18, false), (19, true), (20, false), (21, false)]) T.ki_NoRunCycle (gl_by (by kernel_rfl)) T.g_NoRunCycle (by decide +kernel) (xc_mem T.xc (by rfl) hm1) hz1 hd1 xr1 (by rfl) nm_law_kinds_4 (lt_len (n := 5) (by decide) (by rfl)) ⟨gl_by (by kernel_rfl), T.b_isinstance⟩ (by rfl) (by decide +kernel) (by decide +kernel) (by rfl) (by rfl)
      refine a_cons' (o := .fz) (ta := .vw .fz) ?_ ?_ (by rfl) (by rfl)
      · refine e_xisG (tb := [(0, false), (1, false), (2, false), (3, false), (4, false), (5, false), (6, false), (7, false), (8, false), (9, false), (10, false), (11, false), (12, false), (13, false), (14, false), (15, false), (16, false), (17, false), (18, false), (19, false), (20, true), (21, false)]) T.ki_Clash (gl_by (by kernel_rfl)) T.g_Clash (by decide +kernel) (xc_mem T.xc (by rfl) hm1) hz1 hd1 xr1 (by rfl) nm_law_kinds_4 (lt_len (n := 5) (by decide) (by rfl)) ⟨gl_by (by kernel_rfl), T.b_isinstance⟩ (by rfl) (by decide +kernel) (by decide +kernel) (by rfl) (by rfl)
      refine a_cons' (o := .fz) (ta := .vw .fz) ?_ ?_ (by rfl) (by rfl)
      · refine e_xisG (tb := [(0, false), (1, false), (2, false), (3, false), (4, false), (5, false), (6, false), (7, false), (8, false), (9, false), (10, false), (11, false), (12, false), (13, false), (14, false), (15, false), (16, false), (17, false), (18, false), (19, false), (20, false), (21, true)]) T.ki_NoLockOrder (gl_by (by kernel_rfl)) T.g_NoLockOrder (by decide +kernel) (xc_mem T.xc (by rfl) hm1) hz1 hd1 xr1 (by rfl) nm_law_kinds_4 (lt_len (n := 5) (by decide) (by rfl)) ⟨gl_by (by kernel_rfl), T.b_isinstance⟩ (by rfl) (by decide +kernel) (by decide +kernel) (by rfl) (by rfl)
      refine a_cons' (o := .fz) (ta := .vw .fz) ?_ ?_ (by rfl) (by rfl)
      · refine e_xisT (tb := [(0, true), (1, true), (2, true), (3, true), (4, true), (5, true), (6, true), (7, true), (8, true), (9, true), (10, true), (11, true), (12, true), (13, true), (14, true), (15, true), (16, true), (17, true), (18, true), (19, true), (20, true), (21, true)]) T.kt_ValueError (gl_by (by kernel_rfl)) T.b_ValueError (by rfl) (by decide +kernel) (by decide +kernel) (xc_mem T.xc (by rfl) hm1) hz1 hd1 xr1 (by rfl) nm_law_kinds_4 (lt_len (n := 5) (by decide) (by rfl)) ⟨gl_by (by kernel_rfl), T.b_isinstance⟩ (by rfl) (by decide +kernel) (by decide +kernel) (by rfl) (by rfl)
      exact a_nil'
    exact ss_nil'
  refine ss_cons' ?_ ?_
  · refine st_ret' (ta := .vw .fz) ?_ (by rfl)
    refine e_var (i := 3) (k := .ve .fz) nm_law_kinds_3 (by rfl)
  exact ss_nil'
theorem ok_law_kinds {P : Program} {w : World} {K : PySem.W.Frag} {mg : Str → Option Value} {base : Heap} {f : Addr} {fd : FuncData} (T : Fx w K mg) (C__law_raise : Cal P w K mg base "_law_raise" 3 sg_law_raise φ_law_raise) (D : FunD K "_law_kinds" "_law_kinds" (defArgs (top 30)) (defBody (top 30)) (defScope (top 30)) [] [] f fd) (hm : mg "_law_kinds" = some (.ref f)) : Cal P w K mg base "_law_kinds" 4 sg_law_kinds φ_law_kinds := ⟨⟨f, fd, ["k", "one", "two"], def_ok D sc_law_kinds rfl rfl (by decide) rfl (body_law_kinds T C__law_raise), hm, D.kp, D.bindsN fun _ _ _ _ _ _ us hl => match us, hl with | [_, _, _], _ => rfl⟩⟩
abbrev S_law_line_field : Scope := defScope (top 31)
abbrev N_law_line_field : List Str := ["k", "one", "told", "e"]
abbrev K_law_line_field : List Kd := [.ve .fz, .ve .fz, .ve .fz, .ve .fz]
theorem sc_law_line_field : FnScope N_law_line_field ["k", "one"] S_law_line_field := ⟨rfl, rfl, rfl, by decide +kernel, rfl, by decide +kernel, by decide +kernel⟩
theorem nd_law_line_field : N_law_line_field.Nodup := sc_law_line_field.nd
theorem nm_law_line_field_0 : Nm N_law_line_field S_law_line_field 0 "k" := nm_by (by kernel_rfl)
theorem lo_law_line_field_0 : Lo N_law_line_field S_law_line_field 0 "k" := lo_by (by kernel_rfl)
theorem nm_law_line_field_1 : Nm N_law_line_field S_law_line_field 1 "one" := nm_by (by kernel_rfl)
theorem lo_law_line_field_1 : Lo N_law_line_field S_law_line_field 1 "one" := lo_by (by kernel_rfl)
theorem nm_law_line_field_2 : Nm N_law_line_field S_law_line_field 2 "told" := nm_by (by kernel_rfl)
theorem lo_law_line_field_2 : Lo N_law_line_field S_law_line_field 2 "told" := lo_by (by kernel_rfl)
theorem nm_law_line_field_3 : Nm N_law_line_field S_law_line_field 3 "e" := nm_by (by kernel_rfl)
theorem lo_law_line_field_3 : Lo N_law_line_field S_law_line_field 3 "e" := lo_by (by kernel_rfl)
def g_law_line_field : So := (sSeq (sSet 2 (fLst lNil))
  (sSeq (sTry1 (sSeq (sEx (fCall φ_law_raise (lCons (evVar 0) (lCons (evVar 1) (lCons (evVar 1) lNil)))))
  sNx) [(0, true), (1, true), (2, true), (3, true), (4, true), (5, true), (6, true), (7, true), (8, false), (9, false), (10, false), (11, false), (12, false), (13, false), (14, false), (15, false), (16, false), (17, false), (18, false), (19, false), (20, false), (21, false)] 3 (fun x1 => (sSeq (sSet 2 (fLst (lCons (fXf 3 "number" x1) lNil)))
  sNx)))
  (sSeq (sRet (evVar 2))
  sNx)))
abbrev sg_law_line_field : Sig := ⟨[.fz, .fz], .vw .fz⟩
def φ_law_line_field : Fn := defF (.vw .fz) 4 g_law_line_field
theorem body_law_line_field {P : Program} {w : World} {K : PySem.W.Frag} {mg : Str → Option Value} {base : Heap} {f : Addr} (T : Fx w K mg) (C__law_raise : Cal P w K mg base "_law_raise" 3 sg_law_raise φ_law_raise) : BodyOk P w K mg base N_law_line_field "_law_line_field" S_law_line_field f 3 K_law_line_field (.vw .fz) (defBody (top 31)) g_law_line_field := by
  intro cdv A outer s H E c hr hK hKs tk
  obtain ⟨K', Ks', F0, G, W⟩ := c
  cases hK
  cases hKs
  have hun := hr.un
  have hu1 : (A.deeper (envOfC "_law_line_field" S_law_line_field s.heap.objs.size f cdv)).units + 1 < cLine := by omega
  have hu64 : (A.deeper (envOfC "_law_line_field" S_law_line_field s.heap.objs.size f cdv)).units + 64 < cLine := by omega
  have hu65 : (A.deeper (envOfC "_law_line_field" S_law_line_field s.heap.objs.size f cdv)).units + 65 < cLine := by omega
  refine ss_cons' ?_ ?_
  · refine e_set' (ta := .vw .fz) (i := 2) lo_law_line_field_2 (by rfl) ?_ (by rfl) (by exact .inl rfl) (by rfl)
    refine s_fz (ta := .fr (.lst .fz)) ?_ (by rfl)
    refine s_lst' (os := []) ?_ (by simp) (by decide)
    exact a_nil'
  refine ss_cons' ?_ ?_
  · refine st_try1 (i := 3) (tb := [(0, true), (1, true), (2, true), (3, true), (4, true), (5, true), (6, true), (7, true), (8, false), (9, false), (10, false), (11, false), (12, false), (13, false), (14, false), (15, false), (16, false), (17, false), (18, false), (19, false), (20, false), (21, false)]) (h := fun x1 => (sSeq (sSet 2 (fLst (lCons (fXf 3 "number" x1) lNil))) sNx)) (by rfl) (by rfl) lo_law_line_field_3 (by rfl) (names_gl (gl_by (by kernel_rfl)) (by decide +kernel) T.g_LineError) tk (by rfl) (lt_len (n := 4) (by decide) (by rfl)) T.m_LineError ?_ ?_
    · intro W1 pn1 xe1 tk hp1
      refine ss_cons' ?_ ?_
      · refine st_expr' (ta := .vw .fz) ?_ (by rfl)
        refine e_call' C__law_raise hr (by decide) (by rfl) (gl_by (by kernel_rfl)) tk ?_ (by decide +kernel) (by rfl) (by rfl) (by rfl)
        refine a_cons' (o := .fz) (ta := .vw .fz) ?_ ?_ (by rfl) (by rfl)
        · refine e_var (i := 0) (k := .ve .fz) nm_law_line_field_0 (by rfl)
        refine a_cons' (o := .fz) (ta := .vw .fz) ?_ ?_ (by rfl) (by rfl)
        · refine e_var (i := 1) (k := .ve .fz) nm_law_line_field_1 (by rfl)
        refine a_cons' (o := .fz) (ta := .vw .fz) ?_ ?_ (by rfl) (by rfl)
        · refine e_var (i := 1) (k := .ve .fz) nm_law_line_field_1 (by rfl)
        exact a_nil'
      exact ss_nil'
    intro x1 a1 o1 d1 pn1 F1 hm1 hz1 hd1 xr1
    refine ss_cons' ?_ ?_
    · refine e_set' (ta := .vw .fz) (i := 2) lo_law_line_field_2 (by rfl) ?_ (by rfl) (by exact .inl rfl) (by rfl)
      refine s_fz (ta := .fr (.lst .fz)) ?_ (by rfl)
      refine s_lst' (os := [.fz]) ?_ (by simp) (by decide)
      refine a_cons' (o := .fz) (ta := .vw .fz) ?_ ?_ (by rfl) (by rfl)
      · refine e_xf (xc_mem T.xc (by rfl) hm1) hz1 hd1 xr1 (by rfl) nm_law_line_field_3 (lt_len (n := 4) (by decide) (by rfl)) (by rfl)
      exact a_nil'
    exact ss_nil'
  refine ss_cons' ?_ ?_
  · refine st_ret' (ta := .vw .fz) ?_ (by rfl)
    refine e_var (i := 2) (k := .ve .fz) nm_law_line_field_2 (by rfl)
  exact ss_nil'
theorem ok_law_line_field {P : Program} {w : World} {K : PySem.W.Frag} {mg : Str → Option Value} {base : Heap} {f : Addr} {fd : FuncData} (T : Fx w K mg) (C__law_raise : Cal P w K mg base "_law_raise" 3 sg_law_raise φ_law_raise) (D : FunD K "_law_line_field" "_law_line_field" (defArgs (top 31)) (defBody (top 31)) (defScope (top 31)) [] [] f fd) (hm : mg "_law_line_field" = some (.ref f)) : Cal P w K mg base "_law_line_field" 4 sg_law_line_field φ_law_line_field := ⟨⟨f, fd, ["k", "one"], def_ok D sc_law_line_field rfl rfl (by decide) rfl (body_law_line_field T C__law_raise), hm, D.kp, D.bindsN fun _ _ _ _ _ _ us hl => match us, hl with | [_, _], _ => rfl⟩⟩
abbrev S_law_fields : Scope := defScope (top 32)
abbrev N_law_fields : List Str := ["k", "one", "two", "told", "e"]
abbrev K_law_fields : List Kd := [.ve .fz, .ve .fz, .ve .fz, .ve .fz, .ve .fz]
theorem sc_law_fields : FnScope N_law_fields ["k", "one", "two"] S_law_fields := ⟨rfl, rfl, rfl, by decide +kernel, rfl, by decide +kernel, by decide +kernel⟩
theorem nd_law_fields : N_law_fields.Nodup := sc_law_fields.nd
theorem nm_law_fields_0 : Nm N_law_fields S_law_fields 0 "k" := nm_by (by kernel_rfl)
theorem lo_law_fields_0 : Lo N_law_fields S_law_fields 0 "k" := lo_by (by kernel_rfl)
theorem nm_law_fields_1 : Nm N_law_fields S_law_fields 1 "one" := nm_by (by kernel_rfl)
theorem lo_law_fields_1 : Lo N_law_fields S_law_fields 1 "one" := lo_by (by kernel_rfl)
theorem nm_law_fields_2 : Nm N_law_fields S_law_fields 2 "two" := nm_by (by kernel_rfl)
theorem lo_law_fields_2 : Lo N_law_fields S_law_fields 2 "two" := lo_by (by kernel_rfl)
theorem nm_law_fields_3 : Nm N_law_fields S_law_fields 3 "told" := nm_by (by kernel_rfl)
theorem lo_law_fields_3 : Lo N_law_fields S_law_fields 3 "told" := lo_by (by kernel_rfl)
theorem nm_law_fields_4 : Nm N_law_fields S_law_fields 4 "e" := nm_by (by kernel_rfl)
theorem lo_law_fields_4 : Lo N_law_fields S_law_fields 4 "e" := lo_by (by kernel_rfl)
def g_law_fields : So := (sSeq (sSet 3 (fLst lNil))
  (sSeq (sTryV (sSeq (sEx (fCall φ_law_raise (lCons (evVar 0) (lCons (evVar 1) (lCons (evVar 2) lNil)))))
  sNx) 4 [([(0, false), (1, false), (2, false), (3, false), (4, false), (5, false), (6, false), (7, false), (8, true), (9, false), (10, false), (11, false), (12, false), (13, false), (14, false), (15, false), (16, false), (17, false), (18, false), (19, false), (20, false), (21, false)], fun x1 => (sSeq (sSet 3 (fLst (lCons (fXf 4 "name" x1) lNil)))
  sNx)), ([(0, false), (1, false), (2, false), (3, false), (4, false), (5, false), (6, false), (7, false), (8, false), (9, true), (10, false), (11, false), (12, false), (13, false), (14, false), (15, false), (16, false), (17, false), (18, false), (19, false), (20, false), (21, false)], fun x1 => (sSeq (sSet 3 (fLst (lCons (fXf 4 "name" x1) lNil)))
  sNx)), ([(0, false), (1, false), (2, false), (3, false), (4, false), (5, false), (6, false), (7, false), (8, false), (9, false), (10, false), (11, true), (12, false), (13, false), (14, false), (15, false), (16, false), (17, false), (18, false), (19, false), (20, false), (21, false)], fun x1 => (sSeq (sSet 3 (fLst (lCons (fXf 4 "move" x1) lNil)))
  sNx)), ([(0, false), (1, false), (2, false), (3, false), (4, false), (5, false), (6, false), (7, false), (8, false), (9, false), (10, false), (11, false), (12, true), (13, false), (14, false), (15, false), (16, false), (17, false), (18, false), (19, false), (20, false), (21, false)], fun x1 => (sSeq (sSet 3 (fLst (lCons (fXf 4 "at" x1) lNil)))
  sNx)), ([(0, false), (1, false), (2, false), (3, false), (4, false), (5, false), (6, false), (7, false), (8, false), (9, false), (10, false), (11, false), (12, false), (13, true), (14, false), (15, false), (16, false), (17, false), (18, false), (19, false), (20, false), (21, false)], fun x1 => (sSeq (sSet 3 (fLst (lCons (fXf 4 "thread" x1) lNil)))
  sNx)), ([(0, false), (1, false), (2, false), (3, false), (4, false), (5, false), (6, false), (7, false), (8, false), (9, false), (10, false), (11, false), (12, false), (13, false), (14, true), (15, false), (16, false), (17, false), (18, false), (19, false), (20, false), (21, false)], fun x1 => (sSeq (sSet 3 (fLst (lCons (fXf 4 "lock" x1) (lCons (fXf 4 "blocker" x1) lNil))))
  sNx)), ([(0, false), (1, false), (2, false), (3, false), (4, false), (5, false), (6, false), (7, false), (8, false), (9, false), (10, false), (11, false), (12, false), (13, false), (14, false), (15, true), (16, false), (17, false), (18, false), (19, false), (20, false), (21, false)], fun x1 => (sSeq (sSet 3 (fLst (lCons (fXf 4 "at" x1) lNil)))
  sNx)), ([(0, false), (1, false), (2, false), (3, false), (4, false), (5, false), (6, false), (7, false), (8, false), (9, false), (10, false), (11, false), (12, false), (13, false), (14, false), (15, false), (16, true), (17, false), (18, false), (19, false), (20, false), (21, false)], fun x1 => (sSeq (sSet 3 (fLst (lCons (fXf 4 "cycle" x1) lNil)))
  sNx)), ([(0, false), (1, false), (2, false), (3, false), (4, false), (5, false), (6, false), (7, false), (8, false), (9, false), (10, false), (11, false), (12, false), (13, false), (14, false), (15, false), (16, false), (17, true), (18, false), (19, false), (20, false), (21, false)], fun x1 => (sSeq (sSet 3 (fLst (lCons (fXf 4 "request" x1) lNil)))
  sNx)), ([(0, false), (1, false), (2, false), (3, false), (4, false), (5, false), (6, false), (7, false), (8, false), (9, false), (10, false), (11, false), (12, false), (13, false), (14, false), (15, false), (16, false), (17, false), (18, true), (19, false), (20, false), (21, false)], fun x1 => (sSeq (sSet 3 (fLst (lCons (fXf 4 "context" x1) lNil)))
  sNx)), ([(0, false), (1, false), (2, false), (3, false), (4, false), (5, false), (6, false), (7, false), (8, false), (9, false), (10, false), (11, false), (12, false), (13, false), (14, false), (15, false), (16, false), (17, false), (18, false), (19, false), (20, true), (21, false)], fun x1 => (sSeq (sSet 3 (fLst (lCons (fXf 4 "cycle" x1) lNil)))
  sNx)), ([(0, false), (1, false), (2, false), (3, false), (4, false), (5, false), (6, false), (7, false), (8, false), (9, false), (10, false), (11, false), (12, false), (13, false), (14, false), (15, false), (16, false), (17, false), (18, false), (19, false), (20, false), (21, true)], fun x1 => (sSeq (sSet 3 (fLst (lCons (fXf 4 "cycle" x1) lNil)))
  sNx))] [(0, true), (1, true), (2, true), (3, true), (4, true), (5, true), (6, true), (7, true), (8, true), (9, true), (10, true), (11, true), (12, true), (13, true), (14, true), (15, true), (16, true), (17, true), (18, true), (19, true), (20, true), (21, true)] (sSeq (sSet 3 (fLst lNil))
  sNx))
  (sSeq (sRet (evVar 3))
  sNx)))
abbrev sg_law_fields : Sig := ⟨[.fz, .fz, .fz], .vw .fz⟩
def φ_law_fields : Fn := defF (.vw .fz) 5 g_law_fields
theorem body_law_fields {P : Program} {w : World} {K : PySem.W.Frag} {mg : Str → Option Value} {base : Heap} {f : Addr} (T : Fx w K mg) (C__law_raise : Cal P w K mg base "_law_raise" 3 sg_law_raise φ_law_raise) : BodyOk P w K mg base N_law_fields "_law_fields" S_law_fields f 3 K_law_fields (.vw .fz) (defBody (top 32)) g_law_fields := by
  intro cdv A outer s H E c hr hK hKs tk
  obtain ⟨K', Ks', F0, G, W⟩ := c
  cases hK
  cases hKs
  have hun := hr.un
  have hu1 : (A.deeper (envOfC "_law_fields" S_law_fields s.heap.objs.size f cdv)).units + 1 < cLine := by omega
  have hu64 : (A.deeper (envOfC "_law_fields" S_law_fields s.heap.objs.size f cdv)).units + 64 < cLine := by omega
  have hu65 : (A.deeper (envOfC "_law_fields" S_law_fields s.heap.objs.size f cdv)).units + 65 < cLine := by omega
  refine ss_cons' ?_ ?_
  · refine e_set' (ta := .vw .fz) (i := 3) lo_law_fields_3 (by rfl) ?_ (by rfl) (by exact .inl rfl) (by rfl)
    refine s_fz (ta := .fr (.lst .fz)) ?_ (by rfl)
    refine s_lst' (os := []) ?_ (by simp) (by decide)
    exact a_nil'
  refine ss_cons' ?_ ?_
  · refine st_tryV (i := 4) (by rfl) (by rfl) lo_law_fields_4 (by rfl) tk (by rfl) (lt_len (n := 5) (by decide) (by rfl)) ?_ ?_
    · intro W1 pn1 xe1 tk hp1
      refine ss_cons' ?_ ?_
      · refine st_expr' (ta := .vw .fz) ?_ (by rfl)
        refine e_call' C__law_raise hr (by decide) (by rfl) (gl_by (by kernel_rfl)) tk ?_ (by decide +kernel) (by rfl) (by rfl) (by rfl)
        refine a_cons' (o := .fz) (ta := .vw .fz) ?_ ?_ (by rfl) (by rfl)
        · refine e_var (i := 0) (k := .ve .fz) nm_law_fields_0 (by rfl)
        refine a_cons' (o := .fz) (ta := .vw .fz) ?_ ?_ (by rfl) (by rfl)
        · refine e_var (i := 1) (k := .ve .fz) nm_law_fields_1 (by rfl)
        refine a_cons' (o := .fz) (ta := .vw .fz) ?_ ?_ (by rfl) (by rfl)
        · refine e_var (i := 2) (k := .ve .fz) nm_law_fields_2 (by rfl)
        exact a_nil'
      exact ss_nil'
    refine st_vcons (tc := [(0, false), (1, false), (2, false), (3, false), (4, false), (5, false), (6, false), (7, false), (8, true), (9, false), (10, false), (11, false), (12, false), (13, false), (14, false), (15, false), (16, false), (17, false), (18, false), (19, false), (20, false), (21, false)]) (g := fun x1 => (sSeq (sSet 3 (fLst (lCons (fXf 4 "name" x1) lNil))) sNx)) (names_gl (gl_by (by kernel_rfl)) (by decide +kernel) T.g_NoName) T.m_NoName ?_ ?_
    · intro x1 a1 o1 d1 pn1 F1 hm1 hz1 hd1 xr1
      refine ss_cons' ?_ ?_
      · refine e_set' (ta := .vw .fz) (i := 3) lo_law_fields_3 (by rfl) ?_ (by rfl) (by exact .inl rfl) (by rfl)
        refine s_fz (ta := .fr (.lst .fz)) ?_ (by rfl)
        refine s_lst' (os := [.fz]) ?_ (by simp) (by decide)
        refine a_cons' (o := .fz) (ta := .vw .fz) ?_ ?_ (by rfl) (by rfl)
        · refine e_xf (xc_mem T.xc (by rfl) hm1) hz1 hd1 xr1 (by rfl) nm_law_fields_4 (lt_len (n := 5) (by decide) (by rfl)) (by rfl)
        exact a_nil'
      exact ss_nil'
    refine st_vcons (tc := [(0, false), (1, false), (2, false), (3, false), (4, false), (5, false), (6, false), (7, false), (8, false), (9, true), (10, false), (11, false), (12, false), (13, false), (14, false), (15, false), (16, false), (17, false), (18, false), (19, false), (20, false), (21, false)]) (g := fun x1 => (sSeq (sSet 3 (fLst (lCons (fXf 4 "name" x1) lNil))) sNx)) (names_gl (gl_by (by kernel_rfl)) (by decide +kernel) T.g_Repeated) T.m_Repeated ?_ ?_
    · intro x1 a1 o1 d1 pn1 F1 hm1 hz1 hd1 xr1
      refine ss_cons' ?_ ?_
      · refine e_set' (ta := .vw .fz) (i := 3) lo_law_fields_3 (by rfl) ?_ (by rfl) (by exact .inl rfl) (by rfl)
        refine s_fz (ta := .fr (.lst .fz)) ?_ (by rfl)
        refine s_lst' (os := [.fz]) ?_ (by simp) (by decide)
        refine a_cons' (o := .fz) (ta := .vw .fz) ?_ ?_ (by rfl) (by rfl)
        · refine e_xf (xc_mem T.xc (by rfl) hm1) hz1 hd1 xr1 (by rfl) nm_law_fields_4 (lt_len (n := 5) (by decide) (by rfl)) (by rfl)
        exact a_nil'
      exact ss_nil'
    refine st_vcons (tc := [(0, false), (1, false), (2, false), (3, false), (4, false), (5, false), (6, false), (7, false), (8, false), (9, false), (10, false), (11, true), (12, false), (13, false), (14, false), (15, false), (16, false), (17, false), (18, false), (19, false), (20, false), (21, false)]) (g := fun x1 => (sSeq (sSet 3 (fLst (lCons (fXf 4 "move" x1) lNil))) sNx)) (names_gl (gl_by (by kernel_rfl)) (by decide +kernel) T.g_WrongMove) T.m_WrongMove ?_ ?_
    · intro x1 a1 o1 d1 pn1 F1 hm1 hz1 hd1 xr1
      refine ss_cons' ?_ ?_
      · refine e_set' (ta := .vw .fz) (i := 3) lo_law_fields_3 (by rfl) ?_ (by rfl) (by exact .inl rfl) (by rfl)
        refine s_fz (ta := .fr (.lst .fz)) ?_ (by rfl)
        refine s_lst' (os := [.fz]) ?_ (by simp) (by decide)
        refine a_cons' (o := .fz) (ta := .vw .fz) ?_ ?_ (by rfl) (by rfl)
        · refine e_xf (xc_mem T.xc (by rfl) hm1) hz1 hd1 xr1 (by rfl) nm_law_fields_4 (lt_len (n := 5) (by decide) (by rfl)) (by rfl)
        exact a_nil'
      exact ss_nil'
    refine st_vcons (tc := [(0, false), (1, false), (2, false), (3, false), (4, false), (5, false), (6, false), (7, false), (8, false), (9, false), (10, false), (11, false), (12, true), (13, false), (14, false), (15, false), (16, false), (17, false), (18, false), (19, false), (20, false), (21, false)]) (g := fun x1 => (sSeq (sSet 3 (fLst (lCons (fXf 4 "at" x1) lNil))) sNx)) (names_gl (gl_by (by kernel_rfl)) (by decide +kernel) T.g_BadRun) T.m_BadRun ?_ ?_
    · intro x1 a1 o1 d1 pn1 F1 hm1 hz1 hd1 xr1
      refine ss_cons' ?_ ?_
      · refine e_set' (ta := .vw .fz) (i := 3) lo_law_fields_3 (by rfl) ?_ (by rfl) (by exact .inl rfl) (by rfl)
        refine s_fz (ta := .fr (.lst .fz)) ?_ (by rfl)
        refine s_lst' (os := [.fz]) ?_ (by simp) (by decide)
        refine a_cons' (o := .fz) (ta := .vw .fz) ?_ ?_ (by rfl) (by rfl)
        · refine e_xf (xc_mem T.xc (by rfl) hm1) hz1 hd1 xr1 (by rfl) nm_law_fields_4 (lt_len (n := 5) (by decide) (by rfl)) (by rfl)
        exact a_nil'
      exact ss_nil'
    refine st_vcons (tc := [(0, false), (1, false), (2, false), (3, false), (4, false), (5, false), (6, false), (7, false), (8, false), (9, false), (10, false), (11, false), (12, false), (13, true), (14, false), (15, false), (16, false), (17, false), (18, false), (19, false), (20, false), (21, false)]) (g := fun x1 => (sSeq (sSet 3 (fLst (lCons (fXf 4 "thread" x1) lNil))) sNx)) (names_gl (gl_by (by kernel_rfl)) (by decide +kernel) T.g_NoThread) T.m_NoThread ?_ ?_
    · intro x1 a1 o1 d1 pn1 F1 hm1 hz1 hd1 xr1
      refine ss_cons' ?_ ?_
      · refine e_set' (ta := .vw .fz) (i := 3) lo_law_fields_3 (by rfl) ?_ (by rfl) (by exact .inl rfl) (by rfl)
        refine s_fz (ta := .fr (.lst .fz)) ?_ (by rfl)
        refine s_lst' (os := [.fz]) ?_ (by simp) (by decide)
        refine a_cons' (o := .fz) (ta := .vw .fz) ?_ ?_ (by rfl) (by rfl)
        · refine e_xf (xc_mem T.xc (by rfl) hm1) hz1 hd1 xr1 (by rfl) nm_law_fields_4 (lt_len (n := 5) (by decide) (by rfl)) (by rfl)
        exact a_nil'
      exact ss_nil'
    refine st_vcons (tc := [(0, false), (1, false), (2, false), (3, false), (4, false), (5, false), (6, false), (7, false), (8, false), (9, false), (10, false), (11, false), (12, false), (13, false), (14, true), (15, false), (16, false), (17, false), (18, false), (19, false), (20, false), (21, false)]) (g := fun x1 => (sSeq (sSet 3 (fLst (lCons (fXf 4 "lock" x1) (lCons (fXf 4 "blocker" x1) lNil)))) sNx)) (names_gl (gl_by (by kernel_rfl)) (by decide +kernel) T.g_MustWait) T.m_MustWait ?_ ?_
    · intro x1 a1 o1 d1 pn1 F1 hm1 hz1 hd1 xr1
      refine ss_cons' ?_ ?_
      · refine e_set' (ta := .vw .fz) (i := 3) lo_law_fields_3 (by rfl) ?_ (by rfl) (by exact .inl rfl) (by rfl)
        refine s_fz (ta := .fr (.lst .fz)) ?_ (by rfl)
        refine s_lst' (os := [.fz, .fz]) ?_ (by simp) (by decide)
        refine a_cons' (o := .fz) (ta := .vw .fz) ?_ ?_ (by rfl) (by rfl)
        · refine e_xf (xc_mem T.xc (by rfl) hm1) hz1 hd1 xr1 (by rfl) nm_law_fields_4 (lt_len (n := 5) (by decide) (by rfl)) (by rfl)
        refine a_cons' (o := .fz) (ta := .vw .fz) ?_ ?_ (by rfl) (by rfl)
        · refine e_xf (xc_mem T.xc (by rfl) hm1) hz1 hd1 xr1 (by rfl) nm_law_fields_4 (lt_len (n := 5) (by decide) (by rfl)) (by rfl)
        exact a_nil'
      exact ss_nil'
    refine st_vcons (tc := [(0, false), (1, false), (2, false), (3, false), (4, false), (5, false), (6, false), (7, false), (8, false), (9, false), (10, false), (11, false), (12, false), (13, false), (14, false), (15, true), (16, false), (17, false), (18, false), (19, false), (20, false), (21, false)]) (g := fun x1 => (sSeq (sSet 3 (fLst (lCons (fXf 4 "at" x1) lNil))) sNx)) (names_gl (gl_by (by kernel_rfl)) (by decide +kernel) T.g_Refused) T.m_Refused ?_ ?_
    · intro x1 a1 o1 d1 pn1 F1 hm1 hz1 hd1 xr1
      refine ss_cons' ?_ ?_
      · refine e_set' (ta := .vw .fz) (i := 3) lo_law_fields_3 (by rfl) ?_ (by rfl) (by exact .inl rfl) (by rfl)
        refine s_fz (ta := .fr (.lst .fz)) ?_ (by rfl)
        refine s_lst' (os := [.fz]) ?_ (by simp) (by decide)
        refine a_cons' (o := .fz) (ta := .vw .fz) ?_ ?_ (by rfl) (by rfl)
        · refine e_xf (xc_mem T.xc (by rfl) hm1) hz1 hd1 xr1 (by rfl) nm_law_fields_4 (lt_len (n := 5) (by decide) (by rfl)) (by rfl)
        exact a_nil'
      exact ss_nil'
    refine st_vcons (tc := [(0, false), (1, false), (2, false), (3, false), (4, false), (5, false), (6, false), (7, false), (8, false), (9, false), (10, false), (11, false), (12, false), (13, false), (14, false), (15, false), (16, true), (17, false), (18, false), (19, false), (20, false), (21, false)]) (g := fun x1 => (sSeq (sSet 3 (fLst (lCons (fXf 4 "cycle" x1) lNil))) sNx)) (names_gl (gl_by (by kernel_rfl)) (by decide +kernel) T.g_Deadlocked) T.m_Deadlocked ?_ ?_
    · intro x1 a1 o1 d1 pn1 F1 hm1 hz1 hd1 xr1
      refine ss_cons' ?_ ?_
      · refine e_set' (ta := .vw .fz) (i := 3) lo_law_fields_3 (by rfl) ?_ (by rfl) (by exact .inl rfl) (by rfl)
        refine s_fz (ta := .fr (.lst .fz)) ?_ (by rfl)
        refine s_lst' (os := [.fz]) ?_ (by simp) (by decide)
        refine a_cons' (o := .fz) (ta := .vw .fz) ?_ ?_ (by rfl) (by rfl)
        · refine e_xf (xc_mem T.xc (by rfl) hm1) hz1 hd1 xr1 (by rfl) nm_law_fields_4 (lt_len (n := 5) (by decide) (by rfl)) (by rfl)
        exact a_nil'
      exact ss_nil'
    refine st_vcons (tc := [(0, false), (1, false), (2, false), (3, false), (4, false), (5, false), (6, false), (7, false), (8, false), (9, false), (10, false), (11, false), (12, false), (13, false), (14, false), (15, false), (16, false), (17, true), (18, false), (19, false), (20, false), (21, false)]) (g := fun x1 => (sSeq (sSet 3 (fLst (lCons (fXf 4 "request" x1) lNil))) sNx)) (names_gl (gl_by (by kernel_rfl)) (by decide +kernel) T.g_NoRequest) T.m_NoRequest ?_ ?_
    · intro x1 a1 o1 d1 pn1 F1 hm1 hz1 hd1 xr1
      refine ss_cons' ?_ ?_
      · refine e_set' (ta := .vw .fz) (i := 3) lo_law_fields_3 (by rfl) ?_ (by rfl) (by exact .inl rfl) (by rfl)
        refine s_fz (ta := .fr (.lst .fz)) ?_ (by rfl)
        refine s_lst' (os := [.fz]) ?_ (by simp) (by decide)
        refine a_cons' (o := .fz) (ta := .vw .fz) ?_ ?_ (by rfl) (by rfl)
        · refine e_xf (xc_mem T.xc (by rfl) hm1) hz1 hd1 xr1 (by rfl) nm_law_fields_4 (lt_len (n := 5) (by decide) (by rfl)) (by rfl)
        exact a_nil'
      exact ss_nil'
    refine st_vcons (tc := [(0, false), (1, false), (2, false), (3, false), (4, false), (5, false), (6, false), (7, false), (8, false), (9, false), (10, false), (11, false), (12, false), (13, false), (14, false), (15, false), (16, false), (17, false), (18, true), (19, false), (20, false), (21, false)]) (g := fun x1 => (sSeq (sSet 3 (fLst (lCons (fXf 4 "context" x1) lNil))) sNx)) (names_gl (gl_by (by kernel_rfl)) (by decide +kernel) T.g_NoContext) T.m_NoContext ?_ ?_
    · intro x1 a1 o1 d1 pn1 F1 hm1 hz1 hd1 xr1
      refine ss_cons' ?_ ?_
      · refine e_set' (ta := .vw .fz) (i := 3) lo_law_fields_3 (by rfl) ?_ (by rfl) (by exact .inl rfl) (by rfl)
        refine s_fz (ta := .fr (.lst .fz)) ?_ (by rfl)
        refine s_lst' (os := [.fz]) ?_ (by simp) (by decide)
        refine a_cons' (o := .fz) (ta := .vw .fz) ?_ ?_ (by rfl) (by rfl)
        · refine e_xf (xc_mem T.xc (by rfl) hm1) hz1 hd1 xr1 (by rfl) nm_law_fields_4 (lt_len (n := 5) (by decide) (by rfl)) (by rfl)
        exact a_nil'
      exact ss_nil'
    refine st_vcons (tc := [(0, false), (1, false), (2, false), (3, false), (4, false), (5, false), (6, false), (7, false), (8, false), (9, false), (10, false), (11, false), (12, false), (13, false), (14, false), (15, false), (16, false), (17, false), (18, false), (19, false), (20, true), (21, false)]) (g := fun x1 => (sSeq (sSet 3 (fLst (lCons (fXf 4 "cycle" x1) lNil))) sNx)) (names_gl (gl_by (by kernel_rfl)) (by decide +kernel) T.g_Clash) T.m_Clash ?_ ?_
    · intro x1 a1 o1 d1 pn1 F1 hm1 hz1 hd1 xr1
      refine ss_cons' ?_ ?_
      · refine e_set' (ta := .vw .fz) (i := 3) lo_law_fields_3 (by rfl) ?_ (by rfl) (by exact .inl rfl) (by rfl)
        refine s_fz (ta := .fr (.lst .fz)) ?_ (by rfl)
        refine s_lst' (os := [.fz]) ?_ (by simp) (by decide)
        refine a_cons' (o := .fz) (ta := .vw .fz) ?_ ?_ (by rfl) (by rfl)
        · refine e_xf (xc_mem T.xc (by rfl) hm1) hz1 hd1 xr1 (by rfl) nm_law_fields_4 (lt_len (n := 5) (by decide) (by rfl)) (by rfl)
        exact a_nil'
      exact ss_nil'
    refine st_vcons (tc := [(0, false), (1, false), (2, false), (3, false), (4, false), (5, false), (6, false), (7, false), (8, false), (9, false), (10, false), (11, false), (12, false), (13, false), (14, false), (15, false), (16, false), (17, false), (18, false), (19, false), (20, false), (21, true)]) (g := fun x1 => (sSeq (sSet 3 (fLst (lCons (fXf 4 "cycle" x1) lNil))) sNx)) (names_gl (gl_by (by kernel_rfl)) (by decide +kernel) T.g_NoLockOrder) T.m_NoLockOrder ?_ ?_
    · intro x1 a1 o1 d1 pn1 F1 hm1 hz1 hd1 xr1
      refine ss_cons' ?_ ?_
      · refine e_set' (ta := .vw .fz) (i := 3) lo_law_fields_3 (by rfl) ?_ (by rfl) (by exact .inl rfl) (by rfl)
        refine s_fz (ta := .fr (.lst .fz)) ?_ (by rfl)
        refine s_lst' (os := [.fz]) ?_ (by simp) (by decide)
        refine a_cons' (o := .fz) (ta := .vw .fz) ?_ ?_ (by rfl) (by rfl)
        · refine e_xf (xc_mem T.xc (by rfl) hm1) hz1 hd1 xr1 (by rfl) nm_law_fields_4 (lt_len (n := 5) (by decide) (by rfl)) (by rfl)
        exact a_nil'
      exact ss_nil'
    refine st_vlast (tb := [(0, true), (1, true), (2, true), (3, true), (4, true), (5, true), (6, true), (7, true), (8, true), (9, true), (10, true), (11, true), (12, true), (13, true), (14, true), (15, true), (16, true), (17, true), (18, true), (19, true), (20, true), (21, true)]) (h := (sSeq (sSet 3 (fLst lNil)) sNx)) (names_gl (gl_by (by kernel_rfl)) (by decide +kernel) T.g_HeldError) T.m_HeldError ?_
    intro a1 o1 pn1
    refine ss_cons' ?_ ?_
    · refine e_set' (ta := .vw .fz) (i := 3) lo_law_fields_3 (by rfl) ?_ (by rfl) (by exact .inl rfl) (by rfl)
      refine s_fz (ta := .fr (.lst .fz)) ?_ (by rfl)
      refine s_lst' (os := []) ?_ (by simp) (by decide)
      exact a_nil'
    exact ss_nil'
  refine ss_cons' ?_ ?_
  · refine st_ret' (ta := .vw .fz) ?_ (by rfl)
    refine e_var (i := 3) (k := .ve .fz) nm_law_fields_3 (by rfl)
  exact ss_nil'
theorem ok_law_fields {P : Program} {w : World} {K : PySem.W.Frag} {mg : Str → Option Value} {base : Heap} {f : Addr} {fd : FuncData} (T : Fx w K mg) (C__law_raise : Cal P w K mg base "_law_raise" 3 sg_law_raise φ_law_raise) (D : FunD K "_law_fields" "_law_fields" (defArgs (top 32)) (defBody (top 32)) (defScope (top 32)) [] [] f fd) (hm : mg "_law_fields" = some (.ref f)) : Cal P w K mg base "_law_fields" 4 sg_law_fields φ_law_fields := ⟨⟨f, fd, ["k", "one", "two"], def_ok D sc_law_fields rfl rfl (by decide) rfl (body_law_fields T C__law_raise), hm, D.kp, D.bindsN fun _ _ _ _ _ _ us hl => match us, hl with | [_, _, _], _ => rfl⟩⟩
abbrev S_law : Scope := defScope (top 33)
abbrev N_law : List Str := ["script", "draws", "number", "words", "at", "other", "one", "k", "kinds", "due", "j"]
abbrev K_law : List Kd := [.ve .fz, .ve .fz, .ve .fz, .ve .fz, .ve .fz, .ve .fz, .ve .fz, .ve .fz, .ve .fz, .ve .fz, .ve .fz]
theorem sc_law : FnScope N_law ["script"] S_law := ⟨rfl, rfl, rfl, by decide +kernel, rfl, by decide +kernel, by decide +kernel⟩
theorem nd_law : N_law.Nodup := sc_law.nd
theorem nm_law_0 : Nm N_law S_law 0 "script" := nm_by (by kernel_rfl)
theorem lo_law_0 : Lo N_law S_law 0 "script" := lo_by (by kernel_rfl)
theorem nm_law_1 : Nm N_law S_law 1 "draws" := nm_by (by kernel_rfl)
theorem lo_law_1 : Lo N_law S_law 1 "draws" := lo_by (by kernel_rfl)
theorem nm_law_2 : Nm N_law S_law 2 "number" := nm_by (by kernel_rfl)
theorem lo_law_2 : Lo N_law S_law 2 "number" := lo_by (by kernel_rfl)
theorem nm_law_3 : Nm N_law S_law 3 "words" := nm_by (by kernel_rfl)
theorem lo_law_3 : Lo N_law S_law 3 "words" := lo_by (by kernel_rfl)
theorem nm_law_4 : Nm N_law S_law 4 "at" := nm_by (by kernel_rfl)
theorem lo_law_4 : Lo N_law S_law 4 "at" := lo_by (by kernel_rfl)
theorem nm_law_5 : Nm N_law S_law 5 "other" := nm_by (by kernel_rfl)
theorem lo_law_5 : Lo N_law S_law 5 "other" := lo_by (by kernel_rfl)
theorem nm_law_6 : Nm N_law S_law 6 "one" := nm_by (by kernel_rfl)
theorem lo_law_6 : Lo N_law S_law 6 "one" := lo_by (by kernel_rfl)
theorem nm_law_7 : Nm N_law S_law 7 "k" := nm_by (by kernel_rfl)
theorem lo_law_7 : Lo N_law S_law 7 "k" := lo_by (by kernel_rfl)
theorem nm_law_8 : Nm N_law S_law 8 "kinds" := nm_by (by kernel_rfl)
theorem lo_law_8 : Lo N_law S_law 8 "kinds" := lo_by (by kernel_rfl)
theorem nm_law_9 : Nm N_law S_law 9 "due" := nm_by (by kernel_rfl)
theorem lo_law_9 : Lo N_law S_law 9 "due" := lo_by (by kernel_rfl)
def g_law : So := (sSeq (sSet 1 (fCall φ_law_numbers (lCons (evVar 0) (lCons (fC (.int 0)) (lCons (fC (.int 5)) lNil)))))
  (sSeq (sSet 2 (fBin addD (fC (.int 1)) (fBin modD (fBi intD (lCons (fIx (evVar 1) (fC (.int 0))) lNil)) (fC (.int 75)))))
  (sSeq (sSet 3 (fCall φ_law_names (lCons (fIx (evVar 1) (fC (.int 1))) (lCons (fIx (evVar 1) (fC (.int 2))) lNil))))
  (sSeq (sSet 4 (fBin modD (fBi intD (lCons (fIx (evVar 1) (fC (.int 3))) lNil)) (fC (.int 40))))
  (sSeq (sSet 5 (fBin modD (fBi intD (lCons (fIx (evVar 1) (fC (.int 4))) lNil)) (fC (.int 60))))
  (sSeq (sSet 6 (fLst (lCons (evVar 2) (lCons (evVar 2) (lCons (evVar 2) (lCons (evVar 2) (lCons (evVar 2) (lCons (evVar 2) (lCons (evVar 2) (lCons (fIx (evVar 3) (fC (.int 0))) (lCons (fIx (evVar 3) (fC (.int 1))) (lCons (fC (.str "")) (lCons (fTup (lCons (fC (.str "acquire")) (lCons (fIx (evVar 3) (fC (.int 0))) lNil))) (lCons (evVar 4) lNil))))))))))))))
  (sSeq (sSet 6 (fBin addD (evVar 6) (fLst (lCons (fBin subD (fC (.int 0)) (evVar 4)) (lCons (fIx (evVar 3) (fC (.int 0))) (lCons (evVar 4) (lCons (fTup (lCons (evVar 4) (lCons (fBin addD (evVar 4) (fC (.int 1))) lNil))) (lCons (fTup (lCons (fTup (lCons (fIx (evVar 3) (fC (.int 0))) (lCons (fIx (evVar 3) (fC (.int 1))) lNil))) (lCons (fIx (evVar 3) (fC (.int 2))) lNil))) (lCons (fTup (lCons (fIx (evVar 3) (fC (.int 0))) (lCons (fTup (lCons (fIx (evVar 3) (fC (.int 1))) lNil)) lNil))) (lCons (fC (.str "")) lNil))))))))))
  (sSeq (sSet 6 (fBin addD (evVar 6) (fLst (lCons (fTup (lCons (fIx (evVar 3) (fC (.int 1))) (lCons (fIx (evVar 3) (fC (.int 0))) lNil))) (lCons (fTup (lCons (fIx (evVar 3) (fC (.int 2))) (lCons (fIx (evVar 3) (fC (.int 1))) lNil))) (lCons (evVar 2) lNil))))))
  (sSeq (sFor (.nm 7) (iRng1 (fC (.int 22))) (sSeq (sSet 8 (fBin addD (fBin addD (fLst (lCons (fOr (fCmp (op pLt) (evVar 7) (fC (.int 7))) (fCmp (eqD) (evVar 7) (fC (.int 21)))) lNil)) (lcF (.nm 10) none (fCmp (eqD) (evVar 10) (evVar 7)) (iRng1 (fC (.int 21))) [10])) (fLst (lCons (fC (.bl true)) lNil))))
  (sSeq (sIf (fNot (fCall φ_law_same (lCons (fCall φ_law_kinds (lCons (evVar 7) (lCons (fIx (evVar 6) (evVar 7)) (lCons (evVar 5) lNil)))) (lCons (evVar 8) lNil)))) (sSeq (sRet (fC (.bl false)))
  sNx) sNx)
  (sSeq (sIf (fOr (fCmp (op pLt) (evVar 7) (fC (.int 7))) (fCmp (eqD) (evVar 7) (fC (.int 21)))) (sSeq (sIf (fNot (fCall φ_law_same (lCons (fCall φ_law_line_field (lCons (evVar 7) (lCons (fIx (evVar 6) (evVar 7)) lNil))) (lCons (fLst (lCons (fIx (evVar 6) (evVar 7)) lNil)) lNil)))) (sSeq (sRet (fC (.bl false)))
  sNx) sNx)
  sNx) (sSeq (sSet 9 (fLst (lCons (fIx (evVar 6) (evVar 7)) lNil)))
  (sSeq (sIf (fCmp (eqD) (evVar 7) (fC (.int 13))) (sSeq (sSet 9 (fLst (lCons (fIx (evVar 6) (evVar 7)) (lCons (evVar 5) lNil))))
  sNx) sNx)
  (sSeq (sIf (fOr (fCmp (eqD) (evVar 7) (fC (.int 9))) (fCmp (eqD) (evVar 7) (fC (.int 18)))) (sSeq (sSet 9 (fLst lNil))
  sNx) sNx)
  (sSeq (sIf (fNot (fCall φ_law_same (lCons (fCall φ_law_fields (lCons (evVar 7) (lCons (fIx (evVar 6) (evVar 7)) (lCons (evVar 5) lNil)))) (lCons (evVar 9) lNil)))) (sSeq (sRet (fC (.bl false)))
  sNx) sNx)
  sNx)))))
  sNx))))
  (sSeq (sRet (fC (.bl true)))
  sNx))))))))))
abbrev sg_law : Sig := ⟨[.fz], .vw .fz⟩
def φ_law : Fn := defF (.vw .fz) 11 g_law
theorem body_law {P : Program} {w : World} {K : PySem.W.Frag} {mg : Str → Option Value} {base : Heap} {f : Addr} (T : Fx w K mg) (C__law_numbers : Cal P w K mg base "_law_numbers" 1 sg_law_numbers φ_law_numbers) (C__law_names : Cal P w K mg base "_law_names" 1 sg_law_names φ_law_names) (C__law_kinds : Cal P w K mg base "_law_kinds" 4 sg_law_kinds φ_law_kinds) (C__law_same : Cal P w K mg base "_law_same" 2 sg_law_same φ_law_same) (C__law_line_field : Cal P w K mg base "_law_line_field" 4 sg_law_line_field φ_law_line_field) (C__law_fields : Cal P w K mg base "_law_fields" 4 sg_law_fields φ_law_fields) : BodyOk P w K mg base N_law "law" S_law f 4 K_law (.vw .fz) (defBody (top 33)) g_law := by
  intro cdv A outer s H E c hr hK hKs tk
  obtain ⟨K', Ks', F0, G, W⟩ := c
  cases hK
  cases hKs
  have hun := hr.un
  have hu1 : (A.deeper (envOfC "law" S_law s.heap.objs.size f cdv)).units + 1 < cLine := by omega
  have hu64 : (A.deeper (envOfC "law" S_law s.heap.objs.size f cdv)).units + 64 < cLine := by omega
  have hu65 : (A.deeper (envOfC "law" S_law s.heap.objs.size f cdv)).units + 65 < cLine := by omega
  refine ss_cons' ?_ ?_
  · refine e_set' (ta := .vw .fz) (i := 1) lo_law_1 (by rfl) ?_ (by rfl) (by exact .inl rfl) (by rfl)
    refine s_fz (ta := .fr (.lst .fz)) ?_ (by rfl)
    refine e_call' C__law_numbers hr (by decide) (by rfl) (gl_by (by kernel_rfl)) tk ?_ (by decide +kernel) (by rfl) (by rfl) (by rfl)
    refine a_cons' (o := .fz) (ta := .vw .fz) ?_ ?_ (by rfl) (by rfl)
    · refine e_var (i := 0) (k := .ve .fz) nm_law_0 (by rfl)
    refine a_cons' (o := .fz) (ta := .vw .fz) ?_ ?_ (by rfl) (by rfl)
    · exact e_int
    refine a_cons' (o := .fz) (ta := .vw .fz) ?_ ?_ (by rfl) (by rfl)
    · exact e_int
    exact a_nil'
  refine ss_cons' ?_ ?_
  · refine e_set' (ta := .vw .fz) (i := 2) lo_law_2 (by rfl) ?_ (by rfl) (by exact .inl rfl) (by rfl)
    refine s_bin' (ta := .vw .fz) (tb := .vw .fz) o_add ?_ ?_ (by rfl) (by rfl)
    · exact e_int
    refine s_bin' (ta := .vw .fz) (tb := .vw .fz) o_mod ?_ ?_ (by rfl) (by rfl)
    · refine e_ty ⟨gl_by (by kernel_rfl), T.b_int⟩ (b_int) ?_ (by rfl) (by decide +kernel) (by decide +kernel) (by rfl) (by rfl)
      refine a_cons' (o := .bw) (ta := .vw .fz) ?_ ?_ (by rfl) (by rfl)
      · refine s_ix' (o := .fz) (tb := .vw .fz) ?_ ?_ (by rfl) (by intro _ _; rfl) (by intro _ _; rfl) hu1 (by rfl) (by rfl)
        · refine e_var (i := 1) (k := .ve .fz) nm_law_1 (by rfl)
        exact e_int
      exact a_nil'
    exact e_int
  refine ss_cons' ?_ ?_
  · refine e_set' (ta := .vw .fz) (i := 3) lo_law_3 (by rfl) ?_ (by rfl) (by exact .inl rfl) (by rfl)
    refine s_fz (ta := .fr (.lst .fz)) ?_ (by rfl)
    refine e_call' C__law_names hr (by decide) (by rfl) (gl_by (by kernel_rfl)) tk ?_ (by decide +kernel) (by rfl) (by rfl) (by rfl)
    refine a_cons' (o := .fz) (ta := .vw .fz) ?_ ?_ (by rfl) (by rfl)
    · refine s_ix' (o := .fz) (tb := .vw .fz) ?_ ?_ (by rfl) (by intro _ _; rfl) (by intro _ _; rfl) hu1 (by rfl) (by rfl)
      · refine e_var (i := 1) (k := .ve .fz) nm_law_1 (by rfl)
      exact e_int
    refine a_cons' (o := .fz) (ta := .vw .fz) ?_ ?_ (by rfl) (by rfl)
    · refine s_ix' (o := .fz) (tb := .vw .fz) ?_ ?_ (by rfl) (by intro _ _; rfl) (by intro _ _; rfl) hu1 (by rfl) (by rfl)
      · refine e_var (i := 1) (k := .ve .fz) nm_law_1 (by rfl)
      exact e_int
    exact a_nil'
  refine ss_cons' ?_ ?_
  · refine e_set' (ta := .vw .fz) (i := 4) lo_law_4 (by rfl) ?_ (by rfl) (by exact .inl rfl) (by rfl)
    refine s_bin' (ta := .vw .fz) (tb := .vw .fz) o_mod ?_ ?_ (by rfl) (by rfl)
    · refine e_ty ⟨gl_by (by kernel_rfl), T.b_int⟩ (b_int) ?_ (by rfl) (by decide +kernel) (by decide +kernel) (by rfl) (by rfl)
      refine a_cons' (o := .bw) (ta := .vw .fz) ?_ ?_ (by rfl) (by rfl)
      · refine s_ix' (o := .fz) (tb := .vw .fz) ?_ ?_ (by rfl) (by intro _ _; rfl) (by intro _ _; rfl) hu1 (by rfl) (by rfl)
        · refine e_var (i := 1) (k := .ve .fz) nm_law_1 (by rfl)
        exact e_int
      exact a_nil'
    exact e_int
  refine ss_cons' ?_ ?_
  · refine e_set' (ta := .vw .fz) (i := 5) lo_law_5 (by rfl) ?_ (by rfl) (by exact .inl rfl) (by rfl)
    refine s_bin' (ta := .vw .fz) (tb := .vw .fz) o_mod ?_ ?_ (by rfl) (by rfl)
    · refine e_ty ⟨gl_by (by kernel_rfl), T.b_int⟩ (b_int) ?_ (by rfl) (by decide +kernel) (by decide +kernel) (by rfl) (by rfl)
      refine a_cons' (o := .bw) (ta := .vw .fz) ?_ ?_ (by rfl) (by rfl)
      · refine s_ix' (o := .fz) (tb := .vw .fz) ?_ ?_ (by rfl) (by intro _ _; rfl) (by intro _ _; rfl) hu1 (by rfl) (by rfl)
        · refine e_var (i := 1) (k := .ve .fz) nm_law_1 (by rfl)
        exact e_int
      exact a_nil'
    exact e_int
  refine ss_cons' ?_ ?_
  · refine e_set' (ta := .vw .fz) (i := 6) lo_law_6 (by rfl) ?_ (by rfl) (by exact .inl rfl) (by rfl)
    refine s_fz (ta := .fr (.lst .fz)) ?_ (by rfl)
    refine s_lst' (os := [.fz, .fz, .fz, .fz, .fz, .fz, .fz, .fz, .fz, .fz, .fz, .fz]) ?_ (by simp) (by decide)
    refine a_cons' (o := .fz) (ta := .vw .fz) ?_ ?_ (by rfl) (by rfl)
    · refine e_var (i := 2) (k := .ve .fz) nm_law_2 (by rfl)
    refine a_cons' (o := .fz) (ta := .vw .fz) ?_ ?_ (by rfl) (by rfl)
    · refine e_var (i := 2) (k := .ve .fz) nm_law_2 (by rfl)
    refine a_cons' (o := .fz) (ta := .vw .fz) ?_ ?_ (by rfl) (by rfl)
    · refine e_var (i := 2) (k := .ve .fz) nm_law_2 (by rfl)
    refine a_cons' (o := .fz) (ta := .vw .fz) ?_ ?_ (by rfl) (by rfl)
    · refine e_var (i := 2) (k := .ve .fz) nm_law_2 (by rfl)
    refine a_cons' (o := .fz) (ta := .vw .fz) ?_ ?_ (by rfl) (by rfl)
    · refine e_var (i := 2) (k := .ve .fz) nm_law_2 (by rfl)
    refine a_cons' (o := .fz) (ta := .vw .fz) ?_ ?_ (by rfl) (by rfl)
    · refine e_var (i := 2) (k := .ve .fz) nm_law_2 (by rfl)
    refine a_cons' (o := .fz) (ta := .vw .fz) ?_ ?_ (by rfl) (by rfl)
    · refine e_var (i := 2) (k := .ve .fz) nm_law_2 (by rfl)
    refine a_cons' (o := .fz) (ta := .vw .fz) ?_ ?_ (by rfl) (by rfl)
    · refine s_ix' (o := .fz) (tb := .vw .fz) ?_ ?_ (by rfl) (by intro _ _; rfl) (by intro _ _; rfl) hu1 (by rfl) (by rfl)
      · refine e_var (i := 3) (k := .ve .fz) nm_law_3 (by rfl)
      exact e_int
    refine a_cons' (o := .fz) (ta := .vw .fz) ?_ ?_ (by rfl) (by rfl)
    · refine s_ix' (o := .fz) (tb := .vw .fz) ?_ ?_ (by rfl) (by intro _ _; rfl) (by intro _ _; rfl) hu1 (by rfl) (by rfl)
      · refine e_var (i := 3) (k := .ve .fz) nm_law_3 (by rfl)
      exact e_int
    refine a_cons' (o := .fz) (ta := .vw .fz) ?_ ?_ (by rfl) (by rfl)
    · refine e_str (by decide +kernel)
    refine a_cons' (o := .fz) (ta := .vw .fz) ?_ ?_ (by rfl) (by rfl)
    · refine s_tup' (os := [.fz, .fz]) ?_ (by simp) (by decide)
      refine a_cons' (o := .fz) (ta := .vw .fz) ?_ ?_ (by rfl) (by rfl)
      · refine e_str (by decide +kernel)
      refine a_cons' (o := .fz) (ta := .vw .fz) ?_ ?_ (by rfl) (by rfl)
      · refine s_ix' (o := .fz) (tb := .vw .fz) ?_ ?_ (by rfl) (by intro _ _; rfl) (by intro _ _; rfl) hu1 (by rfl) (by rfl)
        · refine e_var (i := 3) (k := .ve .fz) nm_law_3 (by rfl)
        exact e_int
      exact a_nil'
    refine a_cons' (o := .fz) (ta := .vw .fz) ?_ ?_ (by rfl) (by rfl)
    · refine e_var (i := 4) (k := .ve .fz) nm_law_4 (by rfl)
    exact a_nil'
  refine ss_cons' ?_ ?_
  · refine e_set' (ta := .vw .fz) (i := 6) lo_law_6 (by rfl) ?_ (by rfl) (by exact .inl rfl) (by rfl)
    refine s_bin' (ta := .vw .fz) (tb := .fr (.lst .fz)) o_add ?_ ?_ (by rfl) (by rfl)
    · refine e_var (i := 6) (k := .ve .fz) nm_law_6 (by rfl)
    refine s_lst' (os := [.fz, .fz, .fz, .fz, .fz, .fz, .fz]) ?_ (by simp) (by decide)
    refine a_cons' (o := .fz) (ta := .vw .fz) ?_ ?_ (by rfl) (by rfl)
    · refine s_bin' (ta := .vw .fz) (tb := .vw .fz) o_sub ?_ ?_ (by rfl) (by rfl)
      · exact e_int
      refine e_var (i := 4) (k := .ve .fz) nm_law_4 (by rfl)
    refine a_cons' (o := .fz) (ta := .vw .fz) ?_ ?_ (by rfl) (by rfl)
    · refine s_ix' (o := .fz) (tb := .vw .fz) ?_ ?_ (by rfl) (by intro _ _; rfl) (by intro _ _; rfl) hu1 (by rfl) (by rfl)
      · refine e_var (i := 3) (k := .ve .fz) nm_law_3 (by rfl)
      exact e_int
    refine a_cons' (o := .fz) (ta := .vw .fz) ?_ ?_ (by rfl) (by rfl)
    · refine e_var (i := 4) (k := .ve .fz) nm_law_4 (by rfl)
    refine a_cons' (o := .fz) (ta := .vw .fz) ?_ ?_ (by rfl) (by rfl)
    · refine s_tup' (os := [.fz, .fz]) ?_ (by simp) (by decide)
      refine a_cons' (o := .fz) (ta := .vw .fz) ?_ ?_ (by rfl) (by rfl)
      · refine e_var (i := 4) (k := .ve .fz) nm_law_4 (by rfl)
      refine a_cons' (o := .fz) (ta := .vw .fz) ?_ ?_ (by rfl) (by rfl)
      · refine s_bin' (ta := .vw .fz) (tb := .vw .fz) o_add ?_ ?_ (by rfl) (by rfl)
        · refine e_var (i := 4) (k := .ve .fz) nm_law_4 (by rfl)
        exact e_int
      exact a_nil'
    refine a_cons' (o := .fz) (ta := .vw .fz) ?_ ?_ (by rfl) (by rfl)
    · refine s_tup' (os := [.fz, .fz]) ?_ (by simp) (by decide)
      refine a_cons' (o := .fz) (ta := .vw .fz) ?_ ?_ (by rfl) (by rfl)
      · refine s_tup' (os := [.fz, .fz]) ?_ (by simp) (by decide)
        refine a_cons' (o := .fz) (ta := .vw .fz) ?_ ?_ (by rfl) (by rfl)
        · refine s_ix' (o := .fz) (tb := .vw .fz) ?_ ?_ (by rfl) (by intro _ _; rfl) (by intro _ _; rfl) hu1 (by rfl) (by rfl)
          · refine e_var (i := 3) (k := .ve .fz) nm_law_3 (by rfl)
          exact e_int
        refine a_cons' (o := .fz) (ta := .vw .fz) ?_ ?_ (by rfl) (by rfl)
        · refine s_ix' (o := .fz) (tb := .vw .fz) ?_ ?_ (by rfl) (by intro _ _; rfl) (by intro _ _; rfl) hu1 (by rfl) (by rfl)
          · refine e_var (i := 3) (k := .ve .fz) nm_law_3 (by rfl)
          exact e_int
        exact a_nil'
      refine a_cons' (o := .fz) (ta := .vw .fz) ?_ ?_ (by rfl) (by rfl)
      · refine s_ix' (o := .fz) (tb := .vw .fz) ?_ ?_ (by rfl) (by intro _ _; rfl) (by intro _ _; rfl) hu1 (by rfl) (by rfl)
        · refine e_var (i := 3) (k := .ve .fz) nm_law_3 (by rfl)
        exact e_int
      exact a_nil'
    refine a_cons' (o := .fz) (ta := .vw .fz) ?_ ?_ (by rfl) (by rfl)
    · refine s_tup' (os := [.fz, .fz]) ?_ (by simp) (by decide)
      refine a_cons' (o := .fz) (ta := .vw .fz) ?_ ?_ (by rfl) (by rfl)
      · refine s_ix' (o := .fz) (tb := .vw .fz) ?_ ?_ (by rfl) (by intro _ _; rfl) (by intro _ _; rfl) hu1 (by rfl) (by rfl)
        · refine e_var (i := 3) (k := .ve .fz) nm_law_3 (by rfl)
        exact e_int
      refine a_cons' (o := .fz) (ta := .vw .fz) ?_ ?_ (by rfl) (by rfl)
      · refine s_tup' (os := [.fz]) ?_ (by simp) (by decide)
        refine a_cons' (o := .fz) (ta := .vw .fz) ?_ ?_ (by rfl) (by rfl)
        · refine s_ix' (o := .fz) (tb := .vw .fz) ?_ ?_ (by rfl) (by intro _ _; rfl) (by intro _ _; rfl) hu1 (by rfl) (by rfl)
          · refine e_var (i := 3) (k := .ve .fz) nm_law_3 (by rfl)
          exact e_int
        exact a_nil'
      exact a_nil'
    refine a_cons' (o := .fz) (ta := .vw .fz) ?_ ?_ (by rfl) (by rfl)
    · refine e_str (by decide +kernel)
    exact a_nil'
  refine ss_cons' ?_ ?_
  · refine e_set' (ta := .vw .fz) (i := 6) lo_law_6 (by rfl) ?_ (by rfl) (by exact .inl rfl) (by rfl)
    refine s_bin' (ta := .vw .fz) (tb := .fr (.lst .fz)) o_add ?_ ?_ (by rfl) (by rfl)
    · refine e_var (i := 6) (k := .ve .fz) nm_law_6 (by rfl)
    refine s_lst' (os := [.fz, .fz, .fz]) ?_ (by simp) (by decide)
    refine a_cons' (o := .fz) (ta := .vw .fz) ?_ ?_ (by rfl) (by rfl)
    · refine s_tup' (os := [.fz, .fz]) ?_ (by simp) (by decide)
      refine a_cons' (o := .fz) (ta := .vw .fz) ?_ ?_ (by rfl) (by rfl)
      · refine s_ix' (o := .fz) (tb := .vw .fz) ?_ ?_ (by rfl) (by intro _ _; rfl) (by intro _ _; rfl) hu1 (by rfl) (by rfl)
        · refine e_var (i := 3) (k := .ve .fz) nm_law_3 (by rfl)
        exact e_int
      refine a_cons' (o := .fz) (ta := .vw .fz) ?_ ?_ (by rfl) (by rfl)
      · refine s_ix' (o := .fz) (tb := .vw .fz) ?_ ?_ (by rfl) (by intro _ _; rfl) (by intro _ _; rfl) hu1 (by rfl) (by rfl)
        · refine e_var (i := 3) (k := .ve .fz) nm_law_3 (by rfl)
        exact e_int
      exact a_nil'
    refine a_cons' (o := .fz) (ta := .vw .fz) ?_ ?_ (by rfl) (by rfl)
    · refine s_tup' (os := [.fz, .fz]) ?_ (by simp) (by decide)
      refine a_cons' (o := .fz) (ta := .vw .fz) ?_ ?_ (by rfl) (by rfl)
      · refine s_ix' (o := .fz) (tb := .vw .fz) ?_ ?_ (by rfl) (by intro _ _; rfl) (by intro _ _; rfl) hu1 (by rfl) (by rfl)
        · refine e_var (i := 3) (k := .ve .fz) nm_law_3 (by rfl)
        exact e_int
      refine a_cons' (o := .fz) (ta := .vw .fz) ?_ ?_ (by rfl) (by rfl)
      · refine s_ix' (o := .fz) (tb := .vw .fz) ?_ ?_ (by rfl) (by intro _ _; rfl) (by intro _ _; rfl) hu1 (by rfl) (by rfl)
        · refine e_var (i := 3) (k := .ve .fz) nm_law_3 (by rfl)
        exact e_int
      exact a_nil'
    refine a_cons' (o := .fz) (ta := .vw .fz) ?_ ?_ (by rfl) (by rfl)
    · refine e_var (i := 2) (k := .ve .fz) nm_law_2 (by rfl)
    exact a_nil'
  refine ss_cons' ?_ ?_
  · refine st_for' (gm := .fz) (t := (.nm 7)) (by exact passes_of rfl) (by rfl) ?_ ?_ ?_ (by nofun) (by intro _; rfl)
    · refine i_rng1' (ta := .vw .fz) ?_ (by rfl) (gl_by (by kernel_rfl)) T.b_range (by rfl)
      exact e_int
    · refine e_nm (i := 7) lo_law_7 (by rfl) (by exact .inl rfl)
    refine ss_cons' ?_ ?_
    · refine e_set' (ta := .vw .fz) (i := 8) lo_law_8 (by rfl) ?_ (by rfl) (by exact .inl rfl) (by rfl)
      refine s_bin' (ta := .vw .fz) (tb := .fr (.lst .fz)) o_add ?_ ?_ (by rfl) (by rfl)
      · refine s_bin' (ta := .fr (.lst .fz)) (tb := .fr (.lst .fz)) o_add ?_ ?_ (by rfl) (by rfl)
        · refine s_lst' (os := [.fz]) ?_ (by simp) (by decide)
          refine a_cons' (o := .fz) (ta := .vw .fz) ?_ ?_ (by rfl) (by rfl)
          · refine s_or' (ta := .vw .fz) ?_ (by rfl) ?_
            · refine s_cmp' (ta := .vw .fz) (tb := .vw .fz) (o_cmpI op_lt) ?_ ?_ (by rfl) (by rfl) (by rfl)
              · refine e_var (i := 7) (k := .ve .fz) nm_law_7 (by rfl)
              exact e_int
            refine s_one ?_
            refine s_cmp' (ta := .vw .fz) (tb := .vw .fz) (o_eq hu64 (by rfl)) ?_ ?_ (by rfl) (by rfl) (by rfl)
            · refine e_var (i := 7) (k := .ve .fz) nm_law_7 (by rfl)
            exact e_int
          exact a_nil'
        refine e_lc' (ety := .vw .fz) (gm := .fz) (own := [("j", 10)]) (t := (.nm 10)) (tst := none) (by rfl) nd_law ?_ (blkOk_by (own := [("j", 10)]) (by kernel_rfl)) ?_ ?_ ?_ (by rfl) (by decide) (by intro _; rfl) (by rfl)
        · refine i_rng1' (ta := .vw .fz) ?_ (by rfl) (gl_by (by kernel_rfl)) T.b_range (by rfl)
          exact e_int
        · intro _ _ _ _ _
          refine e_nm (i := 10) (lo_by (by kernel_rfl)) (by rfl) (.inr (by kernel_rfl))
        · intro _ _ _ _ _
          exact p_nil
        intro _ _ _ _ _
        refine s_cmp' (ta := .vw .fz) (tb := .vw .fz) (o_eq hu64 (by rfl)) ?_ ?_ (by rfl) (by rfl) (by rfl)
        · refine e_var (i := 10) (k := .ve .fz) (nm_by (by kernel_rfl)) (by rfl)
        refine e_var (i := 7) (k := .ve .fz) (nm_by (by kernel_rfl)) (by rfl)
      refine s_lst' (os := [.fz]) ?_ (by simp) (by decide)
      refine a_cons' (o := .fz) (ta := .vw .fz) ?_ ?_ (by rfl) (by rfl)
      · exact e_bl
      exact a_nil'
    refine ss_cons' ?_ ?_
    · refine st_if' ?_ ?_ ?_
      · refine t_not' ?_
        refine t_val (ta := .vw .fz) ?_ (by intro _; rfl) (by rfl)
        refine e_call' C__law_same hr (by decide) (by rfl) (gl_by (by kernel_rfl)) tk ?_ (by decide +kernel) (by rfl) (by rfl) (by rfl)
        refine a_cons' (o := .fz) (ta := .vw .fz) ?_ ?_ (by rfl) (by rfl)
        · refine e_call' C__law_kinds hr (by decide) (by rfl) (gl_by (by kernel_rfl)) tk ?_ (by decide +kernel) (by rfl) (by rfl) (by rfl)
          refine a_cons' (o := .fz) (ta := .vw .fz) ?_ ?_ (by rfl) (by rfl)
          · refine e_var (i := 7) (k := .ve .fz) nm_law_7 (by rfl)
          refine a_cons' (o := .fz) (ta := .vw .fz) ?_ ?_ (by rfl) (by rfl)
          · refine s_ix' (o := .fz) (tb := .vw .fz) ?_ ?_ (by rfl) (by intro _ _; rfl) (by intro _ _; rfl) hu1 (by rfl) (by rfl)
            · refine e_var (i := 6) (k := .ve .fz) nm_law_6 (by rfl)
            refine e_var (i := 7) (k := .ve .fz) nm_law_7 (by rfl)
          refine a_cons' (o := .fz) (ta := .vw .fz) ?_ ?_ (by rfl) (by rfl)
          · refine e_var (i := 5) (k := .ve .fz) nm_law_5 (by rfl)
          exact a_nil'
        refine a_cons' (o := .fz) (ta := .vw .fz) ?_ ?_ (by rfl) (by rfl)
        · refine e_var (i := 8) (k := .ve .fz) nm_law_8 (by rfl)
        exact a_nil'
      · refine ss_cons' ?_ ?_
        · refine st_ret' (ta := .vw .fz) ?_ (by rfl)
          exact e_bl
        exact ss_nil'
      exact ss_nil'
    refine ss_cons' ?_ ?_
    · refine st_if' ?_ ?_ ?_
      · refine PW.pt ?_
        refine w_or' ?_ ?_
        · refine t_cmp' (ta := .vw .fz) (tb := .vw .fz) (o_cmpI op_lt) ?_ ?_ (by rfl) (by rfl) (by rfl)
          · refine e_var (i := 7) (k := .ve .fz) nm_law_7 (by rfl)
          exact e_int
        refine w_one ?_
        refine t_cmp' (ta := .vw .fz) (tb := .vw .fz) (o_eq hu64 (by rfl)) ?_ ?_ (by rfl) (by rfl) (by rfl)
        · refine e_var (i := 7) (k := .ve .fz) nm_law_7 (by rfl)
        exact e_int
      · refine ss_cons' ?_ ?_
        · refine st_if' ?_ ?_ ?_
          · refine t_not' ?_
            refine t_val (ta := .vw .fz) ?_ (by intro _; rfl) (by rfl)
            refine e_call' C__law_same hr (by decide) (by rfl) (gl_by (by kernel_rfl)) tk ?_ (by decide +kernel) (by rfl) (by rfl) (by rfl)
            refine a_cons' (o := .fz) (ta := .vw .fz) ?_ ?_ (by rfl) (by rfl)
            · refine e_call' C__law_line_field hr (by decide) (by rfl) (gl_by (by kernel_rfl)) tk ?_ (by decide +kernel) (by rfl) (by rfl) (by rfl)
              refine a_cons' (o := .fz) (ta := .vw .fz) ?_ ?_ (by rfl) (by rfl)
              · refine e_var (i := 7) (k := .ve .fz) nm_law_7 (by rfl)
              refine a_cons' (o := .fz) (ta := .vw .fz) ?_ ?_ (by rfl) (by rfl)
              · refine s_ix' (o := .fz) (tb := .vw .fz) ?_ ?_ (by rfl) (by intro _ _; rfl) (by intro _ _; rfl) hu1 (by rfl) (by rfl)
                · refine e_var (i := 6) (k := .ve .fz) nm_law_6 (by rfl)
                refine e_var (i := 7) (k := .ve .fz) nm_law_7 (by rfl)
              exact a_nil'
            refine a_cons' (o := .fz) (ta := .fr (.lst .fz)) ?_ ?_ (by rfl) (by rfl)
            · refine s_lst' (os := [.fz]) ?_ (by simp) (by decide)
              refine a_cons' (o := .fz) (ta := .vw .fz) ?_ ?_ (by rfl) (by rfl)
              · refine s_ix' (o := .fz) (tb := .vw .fz) ?_ ?_ (by rfl) (by intro _ _; rfl) (by intro _ _; rfl) hu1 (by rfl) (by rfl)
                · refine e_var (i := 6) (k := .ve .fz) nm_law_6 (by rfl)
                refine e_var (i := 7) (k := .ve .fz) nm_law_7 (by rfl)
              exact a_nil'
            exact a_nil'
          · refine ss_cons' ?_ ?_
            · refine st_ret' (ta := .vw .fz) ?_ (by rfl)
              exact e_bl
            exact ss_nil'
          exact ss_nil'
        exact ss_nil'
      refine ss_cons' ?_ ?_
      · refine e_set' (ta := .vw .fz) (i := 9) lo_law_9 (by rfl) ?_ (by rfl) (by exact .inl rfl) (by rfl)
        refine s_fz (ta := .fr (.lst .fz)) ?_ (by rfl)
        refine s_lst' (os := [.fz]) ?_ (by simp) (by decide)
        refine a_cons' (o := .fz) (ta := .vw .fz) ?_ ?_ (by rfl) (by rfl)
        · refine s_ix' (o := .fz) (tb := .vw .fz) ?_ ?_ (by rfl) (by intro _ _; rfl) (by intro _ _; rfl) hu1 (by rfl) (by rfl)
          · refine e_var (i := 6) (k := .ve .fz) nm_law_6 (by rfl)
          refine e_var (i := 7) (k := .ve .fz) nm_law_7 (by rfl)
        exact a_nil'
      refine ss_cons' ?_ ?_
      · refine st_if' ?_ ?_ ?_
        · refine t_cmp' (ta := .vw .fz) (tb := .vw .fz) (o_eq hu64 (by rfl)) ?_ ?_ (by rfl) (by rfl) (by rfl)
          · refine e_var (i := 7) (k := .ve .fz) nm_law_7 (by rfl)
          exact e_int
        · refine ss_cons' ?_ ?_
          · refine e_set' (ta := .vw .fz) (i := 9) lo_law_9 (by rfl) ?_ (by rfl) (by exact .inl rfl) (by rfl)
            refine s_fz (ta := .fr (.lst .fz)) ?_ (by rfl)
            refine s_lst' (os := [.fz, .fz]) ?_ (by simp) (by decide)
            refine a_cons' (o := .fz) (ta := .vw .fz) ?_ ?_ (by rfl) (by rfl)
            · refine s_ix' (o := .fz) (tb := .vw .fz) ?_ ?_ (by rfl) (by intro _ _; rfl) (by intro _ _; rfl) hu1 (by rfl) (by rfl)
              · refine e_var (i := 6) (k := .ve .fz) nm_law_6 (by rfl)
              refine e_var (i := 7) (k := .ve .fz) nm_law_7 (by rfl)
            refine a_cons' (o := .fz) (ta := .vw .fz) ?_ ?_ (by rfl) (by rfl)
            · refine e_var (i := 5) (k := .ve .fz) nm_law_5 (by rfl)
            exact a_nil'
          exact ss_nil'
        exact ss_nil'
      refine ss_cons' ?_ ?_
      · refine st_if' ?_ ?_ ?_
        · refine PW.pt ?_
          refine w_or' ?_ ?_
          · refine t_cmp' (ta := .vw .fz) (tb := .vw .fz) (o_eq hu64 (by rfl)) ?_ ?_ (by rfl) (by rfl) (by rfl)
            · refine e_var (i := 7) (k := .ve .fz) nm_law_7 (by rfl)
            exact e_int
          refine w_one ?_
          refine t_cmp' (ta := .vw .fz) (tb := .vw .fz) (o_eq hu64 (by rfl)) ?_ ?_ (by rfl) (by rfl) (by rfl)
          · refine e_var (i := 7) (k := .ve .fz) nm_law_7 (by rfl)
          exact e_int
        · refine ss_cons' ?_ ?_
          · refine e_set' (ta := .vw .fz) (i := 9) lo_law_9 (by rfl) ?_ (by rfl) (by exact .inl rfl) (by rfl)
            refine s_fz (ta := .fr (.lst .fz)) ?_ (by rfl)
            refine s_lst' (os := []) ?_ (by simp) (by decide)
            exact a_nil'
          exact ss_nil'
        exact ss_nil'
      refine ss_cons' ?_ ?_
      · refine st_if' ?_ ?_ ?_
        · refine t_not' ?_
          refine t_val (ta := .vw .fz) ?_ (by intro _; rfl) (by rfl)
          refine e_call' C__law_same hr (by decide) (by rfl) (gl_by (by kernel_rfl)) tk ?_ (by decide +kernel) (by rfl) (by rfl) (by rfl)
          refine a_cons' (o := .fz) (ta := .vw .fz) ?_ ?_ (by rfl) (by rfl)
          · refine e_call' C__law_fields hr (by decide) (by rfl) (gl_by (by kernel_rfl)) tk ?_ (by decide +kernel) (by rfl) (by rfl) (by rfl)
            refine a_cons' (o := .fz) (ta := .vw .fz) ?_ ?_ (by rfl) (by rfl)
            · refine e_var (i := 7) (k := .ve .fz) nm_law_7 (by rfl)
            refine a_cons' (o := .fz) (ta := .vw .fz) ?_ ?_ (by rfl) (by rfl)
            · refine s_ix' (o := .fz) (tb := .vw .fz) ?_ ?_ (by rfl) (by intro _ _; rfl) (by intro _ _; rfl) hu1 (by rfl) (by rfl)
              · refine e_var (i := 6) (k := .ve .fz) nm_law_6 (by rfl)
              refine e_var (i := 7) (k := .ve .fz) nm_law_7 (by rfl)
            refine a_cons' (o := .fz) (ta := .vw .fz) ?_ ?_ (by rfl) (by rfl)
            · refine e_var (i := 5) (k := .ve .fz) nm_law_5 (by rfl)
            exact a_nil'
          refine a_cons' (o := .fz) (ta := .vw .fz) ?_ ?_ (by rfl) (by rfl)
          · refine e_var (i := 9) (k := .ve .fz) nm_law_9 (by rfl)
          exact a_nil'
        · refine ss_cons' ?_ ?_
          · refine st_ret' (ta := .vw .fz) ?_ (by rfl)
            exact e_bl
          exact ss_nil'
        exact ss_nil'
      exact ss_nil'
    exact ss_nil'
  refine ss_cons' ?_ ?_
  · refine st_ret' (ta := .vw .fz) ?_ (by rfl)
    exact e_bl
  exact ss_nil'
theorem ok_law {P : Program} {w : World} {K : PySem.W.Frag} {mg : Str → Option Value} {base : Heap} {f : Addr} {fd : FuncData} (T : Fx w K mg) (C__law_numbers : Cal P w K mg base "_law_numbers" 1 sg_law_numbers φ_law_numbers) (C__law_names : Cal P w K mg base "_law_names" 1 sg_law_names φ_law_names) (C__law_kinds : Cal P w K mg base "_law_kinds" 4 sg_law_kinds φ_law_kinds) (C__law_same : Cal P w K mg base "_law_same" 2 sg_law_same φ_law_same) (C__law_line_field : Cal P w K mg base "_law_line_field" 4 sg_law_line_field φ_law_line_field) (C__law_fields : Cal P w K mg base "_law_fields" 4 sg_law_fields φ_law_fields) (D : FunD K "law" "law" (defArgs (top 33)) (defBody (top 33)) (defScope (top 33)) [] [] f fd) (hm : mg "law" = some (.ref f)) : Cal P w K mg base "law" 5 sg_law φ_law := ⟨⟨f, fd, ["script"], def_ok D sc_law rfl rfl (by decide) rfl (body_law T C__law_numbers C__law_names C__law_kinds C__law_same C__law_line_field C__law_fields), hm, D.kp, D.bindsN fun _ _ _ _ _ _ us hl => match us, hl with | [_], _ => rfl⟩⟩
theorem facts {P : Program} {w : World} {K : PySem.W.Frag} {h : Heap} {mg : Str → Option Value} {f : Addr} (X : K.In h) (G : h.Ns mainGlobals mg) (hfa : mg ("law" : Str) = some (.ref f)) (c : SaysH fa fn ts pf ex w K) (hP : P.main.file = fileS) (hT : (P.main.scope.names.lookup ("super" : Str)).isSome = false) :
    ∃ fd : FuncData, (∀ (s : Shared) (v : Value), BindsTo s fd ⟨[v], []⟩ [("script", v)]) ∧ ∀ base : Heap, K.In base → base.Ns mainGlobals mg → FnOk P w K mg base (L2.CX P w) 5 f fd ["script"] (spE K sg_law φ_law) := by
  have x0 : ex K = true := c.x
  unfold ex at x0
  obtain ⟨x1, x0⟩ := He.ba x0
  obtain ⟨x2, x0⟩ := He.ba x0
  obtain ⟨x3, x0⟩ := He.ba x0
  obtain ⟨x4, x0⟩ := He.ba x0
  obtain ⟨x5, x0⟩ := He.ba x0
  obtain ⟨x6, x0⟩ := He.ba x0
  obtain ⟨x7, x0⟩ := He.ba x0
  obtain ⟨x8, x0⟩ := He.ba x0
  obtain ⟨x9, x0⟩ := He.ba x0
  obtain ⟨x10, x0⟩ := He.ba x0
  obtain ⟨x11, x0⟩ := He.ba x0
  obtain ⟨x12, x0⟩ := He.ba x0
  obtain ⟨x13, x0⟩ := He.ba x0
  obtain ⟨x14, x0⟩ := He.ba x0
  obtain ⟨x15, x0⟩ := He.ba x0
  obtain ⟨x16, x0⟩ := He.ba x0
  obtain ⟨x17, x0⟩ := He.ba x0
  obtain ⟨x18, x0⟩ := He.ba x0
  obtain ⟨x19, x0⟩ := He.ba x0
  obtain ⟨x20, x0⟩ := He.ba x0
  obtain ⟨x21, x0⟩ := He.ba x0
  obtain ⟨x22, x0⟩ := He.ba x0
  obtain ⟨x23, x0⟩ := He.ba x0
  obtain ⟨x24, x0⟩ := He.ba x0
  obtain ⟨x25, x0⟩ := He.ba x0
  obtain ⟨x26, x0⟩ := He.ba x0
  obtain ⟨x27, x0⟩ := He.ba x0
  obtain ⟨x28, x0⟩ := He.ba x0
  obtain ⟨x29, x0⟩ := He.ba x0
  obtain ⟨x30, x0⟩ := He.ba x0
  obtain ⟨x31, x0⟩ := He.ba x0
  obtain ⟨x32, x0⟩ := He.ba x0
  obtain ⟨x33, x0⟩ := He.ba x0
  obtain ⟨x34, x0⟩ := He.ba x0
  obtain ⟨x35, x0⟩ := He.ba x0
  obtain ⟨x36, x0⟩ := He.ba x0
  obtain ⟨x37, x0⟩ := He.ba x0
  obtain ⟨x38, x0⟩ := He.ba x0
  obtain ⟨x39, x0⟩ := He.ba x0
  obtain ⟨x40, x0⟩ := He.ba x0
  obtain ⟨x41, x0⟩ := He.ba x0
  obtain ⟨x42, x0⟩ := He.ba x0
  obtain ⟨x43, x0⟩ := He.ba x0
  obtain ⟨x44, x0⟩ := He.ba x0
  obtain ⟨x45, x0⟩ := He.ba x0
  obtain ⟨x46, x0⟩ := He.ba x0
  obtain ⟨x47, x0⟩ := He.ba x0
  obtain ⟨x48, x0⟩ := He.ba x0
  obtain ⟨x49, x0⟩ := He.ba x0
  obtain ⟨x50, x0⟩ := He.ba x0
  obtain ⟨x51, x0⟩ := He.ba x0
  obtain ⟨x52, x0⟩ := He.ba x0
  obtain ⟨x53, x0⟩ := He.ba x0
  obtain ⟨x54, x0⟩ := He.ba x0
  obtain ⟨x55, x0⟩ := He.ba x0
  obtain ⟨x56, x0⟩ := He.ba x0
  obtain ⟨x57, x0⟩ := He.ba x0
  obtain ⟨x58, x0⟩ := He.ba x0
  obtain ⟨x59, x0⟩ := He.ba x0
  obtain ⟨x60, x0⟩ := He.ba x0
  obtain ⟨x61, x0⟩ := He.ba x0
  obtain ⟨x62, x0⟩ := He.ba x0
  obtain ⟨x63, x0⟩ := He.ba x0
  obtain ⟨x64, x0⟩ := He.ba x0
  obtain ⟨x65, x0⟩ := He.ba x0
  obtain ⟨x66, x0⟩ := He.ba x0
  obtain ⟨x67, x0⟩ := He.ba x0
  obtain ⟨x68, x0⟩ := He.ba x0
  obtain ⟨x69, x0⟩ := He.ba x0
  obtain ⟨x70, x0⟩ := He.ba x0
  obtain ⟨x71, x0⟩ := He.ba x0
  obtain ⟨x72, x0⟩ := He.ba x0
  obtain ⟨x73, x0⟩ := He.ba x0
  obtain ⟨x74, x0⟩ := He.ba x0
  obtain ⟨x75, x0⟩ := He.ba x0
  obtain ⟨x76, x0⟩ := He.ba x0
  obtain ⟨x77, x0⟩ := He.ba x0
  obtain ⟨x78, x0⟩ := He.ba x0
  obtain ⟨x79, x0⟩ := He.ba x0
  obtain ⟨x80, x0⟩ := He.ba x0
  obtain ⟨x81, x0⟩ := He.ba x0
  obtain ⟨x82, x0⟩ := He.ba x0
  obtain ⟨x83, x0⟩ := He.ba x0
  obtain ⟨x84, x0⟩ := He.ba x0
  obtain ⟨x85, x0⟩ := He.ba x0
  obtain ⟨x86, x0⟩ := He.ba x0
  obtain ⟨x87, x0⟩ := He.ba x0
  obtain ⟨x88, x0⟩ := He.ba x0
  obtain ⟨x89, x0⟩ := He.ba x0
  obtain ⟨x90, x0⟩ := He.ba x0
  obtain ⟨x91, x0⟩ := He.ba x0
  obtain ⟨x92, x0⟩ := He.ba x0
  obtain ⟨x93, x0⟩ := He.ba x0
  obtain ⟨x94, x0⟩ := He.ba x0
  obtain ⟨x95, x0⟩ := He.ba x0
  obtain ⟨x96, x0⟩ := He.ba x0
  obtain ⟨x97, x0⟩ := He.ba x0
  obtain ⟨x98, x0⟩ := He.ba x0
  obtain ⟨x99, x0⟩ := He.ba x0
  obtain ⟨x100, x0⟩ := He.ba x0
  obtain ⟨x101, x0⟩ := He.ba x0
  obtain ⟨x102, x0⟩ := He.ba x0
  obtain ⟨x103, x0⟩ := He.ba x0
  obtain ⟨x104, x0⟩ := He.ba x0
  obtain ⟨x105, x0⟩ := He.ba x0
  obtain ⟨x106, x0⟩ := He.ba x0
  obtain ⟨x107, x0⟩ := He.ba x0
  obtain ⟨x108, x0⟩ := He.ba x0
  obtain ⟨x109, x0⟩ := He.ba x0
  obtain ⟨x110, x0⟩ := He.ba x0
  obtain ⟨x111, x0⟩ := He.ba x0
  obtain ⟨x112, x0⟩ := He.ba x0
  obtain ⟨x113, x0⟩ := He.ba x0
  obtain ⟨x114, x0⟩ := He.ba x0
  have T : Fx w K mg := ⟨He.free_ok X G (c.d.fact 0 (f := .free "len") (by rfl)), He.free_ok X G (c.d.fact 1 (f := .free "int") (by rfl)), He.free_ok X G (c.d.fact 2 (f := .free "abs") (by rfl)), He.free_ok X G (c.d.fact 3 (f := .free "range") (by rfl)), He.free_ok X G (c.d.fact 4 (f := .free "isinstance") (by rfl)), He.free_ok X G (c.d.fact 5 (f := .free "bool") (by rfl)), He.free_ok X G (c.d.fact 6 (f := .free "str") (by rfl)), He.free_ok X G (c.d.fact 7 (f := .free "tuple") (by rfl)), He.free_ok X G (c.d.fact 8 (f := .free "list") (by rfl)), He.free_ok X G (c.d.fact 9 (f := .free "zip") (by rfl)), xoB_ok (ci := 10) x1 rfl (He.glo_ok X G (c.d.fact 10 (f := .glo "Overfull") (by rfl))), xoB_ok (ci := 19) x2 rfl (He.glo_ok X G (c.d.fact 11 (f := .glo "NoRunCycle") (by rfl))), He.glo_ok X G (c.d.fact 12 (f := .glo "HeldError") (by rfl)), exmB_ok x3 rfl, (by
    intro q hq
    simp only [List.mem_cons, List.not_mem_nil, or_false] at hq
    rcases hq with rfl | rfl | rfl | rfl | rfl | rfl | rfl | rfl | rfl | rfl | rfl | rfl | rfl | rfl | rfl | rfl | rfl | rfl | rfl | rfl | rfl | rfl
    · exact xclB_ok (ci := 0) x4
    · exact xclB_ok (ci := 1) x5
    · exact xclB_ok (ci := 2) x6
    · exact xclB_ok (ci := 3) x7
    · exact xclB_ok (ci := 4) x8
    · exact xclB_ok (ci := 5) x9
    · exact xclB_ok (ci := 6) x10
    · exact xclB_ok (ci := 7) x11
    · exact xclB_ok (ci := 8) x12
    · exact xclB_ok (ci := 9) x13
    · exact xclB_ok (ci := 10) x14
    · exact xclB_ok (ci := 11) x15
    · exact xclB_ok (ci := 12) x16
    · exact xclB_ok (ci := 13) x17
    · exact xclB_ok (ci := 14) x18
    · exact xclB_ok (ci := 15) x19
    · exact xclB_ok (ci := 16) x20
    · exact xclB_ok (ci := 17) x21
    · exact xclB_ok (ci := 18) x22
    · exact xclB_ok (ci := 19) x23
    · exact xclB_ok (ci := 20) x24
    · exact xclB_ok (ci := 21) x25), He.glo_ok X G (c.d.fact 13 (f := .glo "LineError") (by rfl)), kitB_ok x26 rfl, He.glo_ok X G (c.d.fact 14 (f := .glo "BadForm") (by rfl)), kitB_ok x27 rfl, He.glo_ok X G (c.d.fact 15 (f := .glo "Misplaced") (by rfl)), kitB_ok x28 rfl, He.glo_ok X G (c.d.fact 16 (f := .glo "Duplicate") (by rfl)), kitB_ok x29 rfl, He.glo_ok X G (c.d.fact 17 (f := .glo "Unknown") (by rfl)), kitB_ok x30 rfl, He.glo_ok X G (c.d.fact 18 (f := .glo "NotNested") (by rfl)), kitB_ok x31 rfl, He.glo_ok X G (c.d.fact 19 (f := .glo "TooMany") (by rfl)), kitB_ok x32 rfl, He.glo_ok X G (c.d.fact 20 (f := .glo "TooLong") (by rfl)), kitB_ok x33 rfl, He.glo_ok X G (c.d.fact 21 (f := .glo "NoName") (by rfl)), kitB_ok x34 rfl, He.glo_ok X G (c.d.fact 22 (f := .glo "Repeated") (by rfl)), kitB_ok x35 rfl, He.glo_ok X G (c.d.fact 10 (f := .glo "Overfull") (by rfl)), kitB_ok x36 rfl, He.glo_ok X G (c.d.fact 23 (f := .glo "WrongMove") (by rfl)), kitB_ok x37 rfl, He.glo_ok X G (c.d.fact 24 (f := .glo "BadRun") (by rfl)), kitB_ok x38 rfl, He.glo_ok X G (c.d.fact 25 (f := .glo "NoThread") (by rfl)), kitB_ok x39 rfl, He.glo_ok X G (c.d.fact 26 (f := .glo "MustWait") (by rfl)), kitB_ok x40 rfl, He.glo_ok X G (c.d.fact 27 (f := .glo "Refused") (by rfl)), kitB_ok x41 rfl, He.glo_ok X G (c.d.fact 28 (f := .glo "Deadlocked") (by rfl)), kitB_ok x42 rfl, He.glo_ok X G (c.d.fact 29 (f := .glo "NoRequest") (by rfl)), kitB_ok x43 rfl, He.glo_ok X G (c.d.fact 30 (f := .glo "NoContext") (by rfl)), kitB_ok x44 rfl, He.glo_ok X G (c.d.fact 11 (f := .glo "NoRunCycle") (by rfl)), kitB_ok x45 rfl, He.glo_ok X G (c.d.fact 31 (f := .glo "Clash") (by rfl)), kitB_ok x46 rfl, He.glo_ok X G (c.d.fact 32 (f := .glo "NoLockOrder") (by rfl)), kitB_ok x47 rfl, kitTB_ok x48 rfl, He.free_ok X G (c.d.fact 33 (f := .free "ValueError") (by rfl)), exmB_ok x49 rfl, exmB_ok x50 rfl, exmB_ok x51 rfl, exmB_ok x52 rfl, exmB_ok x53 rfl, exmB_ok x54 rfl, exmB_ok x55 rfl, exmB_ok x56 rfl, exmB_ok x57 rfl, exmB_ok x58 rfl, exmB_ok x59 rfl, exmB_ok x60 rfl, exmB_ok x61 rfl⟩
  obtain ⟨fd_law_numbers, D_law_numbers⟩ := c.d.def_ 0 (d := d_law_numbers) (by rfl)
  obtain ⟨fd_law_names, D_law_names⟩ := c.d.def_ 1 (d := d_law_names) (by rfl)
  obtain ⟨fd_law_leaf, D_law_leaf⟩ := c.d.def_ 2 (d := d_law_leaf) (by rfl)
  obtain ⟨fd_law_same, D_law_same⟩ := c.d.def_ 3 (d := d_law_same) (by rfl)
  obtain ⟨fd_law_raise, D_law_raise⟩ := c.d.def_ 4 (d := d_law_raise) (by rfl)
  obtain ⟨fd_law_kinds, D_law_kinds⟩ := c.d.def_ 5 (d := d_law_kinds) (by rfl)
  obtain ⟨fd_law_line_field, D_law_line_field⟩ := c.d.def_ 6 (d := d_law_line_field) (by rfl)
  obtain ⟨fd_law_fields, D_law_fields⟩ := c.d.def_ 7 (d := d_law_fields) (by rfl)
  obtain ⟨fd_law, D_law⟩ := c.d.def_ 8 (d := d_law) (by rfl)
  have e := hfa.symm.trans (He.glo_ok X G (c.d.fact 42 (f := .glo "law") (by rfl)))
  cases e
  refine ⟨fd_law, fun s v => FunD.bindsA (ps := ["script"]) D_law (fun _ _ _ _ _ _ us hl => match us, hl with | [_], _ => rfl) s [v] rfl, fun base _ _ => ?_⟩
  have X_LineError : XMk P w K mg base 0 1 := xmk1 (ci := 0) (D := He.ga K "LineError") (N := ["self", "number", "__class__"]) x62 hP hT (c.i 0 (q := d_i_LineError) (by rfl) (by rfl)) x63 x64 (He.glo_ok X G (c.d.fact 13 (f := .glo "LineError") (by rfl))) (by rfl) (NdefX.nscope_by (by kernel_rfl)) (by rfl) (by kernel_rfl) (by rfl) (fun _ => rfl) (fun _ => rfl) (by rfl) (by rfl) (by decide +kernel) (by decide +kernel) (fun _ _ _ _ _ _ us hl => match us, hl with | [_, _], _ => rfl)
  have X_BadForm : XMk P w K mg base 1 1 := xmk1 (ci := 1) (D := He.ga K "LineError") (N := ["self", "number", "__class__"]) x62 hP hT (c.i 0 (q := d_i_LineError) (by rfl) (by rfl)) x65 x66 (He.glo_ok X G (c.d.fact 14 (f := .glo "BadForm") (by rfl))) (by rfl) (NdefX.nscope_by (by kernel_rfl)) (by rfl) (by kernel_rfl) (by rfl) (fun _ => rfl) (fun _ => rfl) (by rfl) (by rfl) (by decide +kernel) (by decide +kernel) (fun _ _ _ _ _ _ us hl => match us, hl with | [_, _], _ => rfl)
  have X_Misplaced : XMk P w K mg base 2 1 := xmk1 (ci := 2) (D := He.ga K "LineError") (N := ["self", "number", "__class__"]) x62 hP hT (c.i 0 (q := d_i_LineError) (by rfl) (by rfl)) x67 x68 (He.glo_ok X G (c.d.fact 15 (f := .glo "Misplaced") (by rfl))) (by rfl) (NdefX.nscope_by (by kernel_rfl)) (by rfl) (by kernel_rfl) (by rfl) (fun _ => rfl) (fun _ => rfl) (by rfl) (by rfl) (by decide +kernel) (by decide +kernel) (fun _ _ _ _ _ _ us hl => match us, hl with | [_, _], _ => rfl)
  have X_Duplicate : XMk P w K mg base 3 1 := xmk1 (ci := 3) (D := He.ga K "LineError") (N := ["self", "number", "__class__"]) x62 hP hT (c.i 0 (q := d_i_LineError) (by rfl) (by rfl)) x69 x70 (He.glo_ok X G (c.d.fact 16 (f := .glo "Duplicate") (by rfl))) (by rfl) (NdefX.nscope_by (by kernel_rfl)) (by rfl) (by kernel_rfl) (by rfl) (fun _ => rfl) (fun _ => rfl) (by rfl) (by rfl) (by decide +kernel) (by decide +kernel) (fun _ _ _ _ _ _ us hl => match us, hl with | [_, _], _ => rfl)
  have X_Unknown : XMk P w K mg base 4 1 := xmk1 (ci := 4) (D := He.ga K "LineError") (N := ["self", "number", "__class__"]) x62 hP hT (c.i 0 (q := d_i_LineError) (by rfl) (by rfl)) x71 x72 (He.glo_ok X G (c.d.fact 17 (f := .glo "Unknown") (by rfl))) (by rfl) (NdefX.nscope_by (by kernel_rfl)) (by rfl) (by kernel_rfl) (by rfl) (fun _ => rfl) (fun _ => rfl) (by rfl) (by rfl) (by decide +kernel) (by decide +kernel) (fun _ _ _ _ _ _ us hl => match us, hl with | [_, _], _ => rfl)
  have X_NotNested : XMk P w K mg base 5 1 := xmk1 (ci := 5) (D := He.ga K "LineError") (N := ["self", "number", "__class__"]) x62 hP hT (c.i 0 (q := d_i_LineError) (by rfl) (by rfl)) x73 x74 (He.glo_ok X G (c.d.fact 18 (f := .glo "NotNested") (by rfl))) (by rfl) (NdefX.nscope_by (by kernel_rfl)) (by rfl) (by kernel_rfl) (by rfl) (fun _ => rfl) (fun _ => rfl) (by rfl) (by rfl) (by decide +kernel) (by decide +kernel) (fun _ _ _ _ _ _ us hl => match us, hl with | [_, _], _ => rfl)
  have X_TooMany : XMk P w K mg base 6 1 := xmk1 (ci := 6) (D := He.ga K "LineError") (N := ["self", "number", "__class__"]) x62 hP hT (c.i 0 (q := d_i_LineError) (by rfl) (by rfl)) x75 x76 (He.glo_ok X G (c.d.fact 19 (f := .glo "TooMany") (by rfl))) (by rfl) (NdefX.nscope_by (by kernel_rfl)) (by rfl) (by kernel_rfl) (by rfl) (fun _ => rfl) (fun _ => rfl) (by rfl) (by rfl) (by decide +kernel) (by decide +kernel) (fun _ _ _ _ _ _ us hl => match us, hl with | [_, _], _ => rfl)
  have X_TooLong : XMk P w K mg base 7 1 := xmk1 (ci := 7) (D := He.ga K "LineError") (N := ["self", "number", "__class__"]) x62 hP hT (c.i 0 (q := d_i_LineError) (by rfl) (by rfl)) x77 x78 (He.glo_ok X G (c.d.fact 20 (f := .glo "TooLong") (by rfl))) (by rfl) (NdefX.nscope_by (by kernel_rfl)) (by rfl) (by kernel_rfl) (by rfl) (fun _ => rfl) (fun _ => rfl) (by rfl) (by rfl) (by decide +kernel) (by decide +kernel) (fun _ _ _ _ _ _ us hl => match us, hl with | [_, _], _ => rfl)
  have X_NoName : XMk P w K mg base 8 1 := xmk1 (ci := 8) (D := He.ga K "NoName") (N := ["self", "name", "__class__"]) x79 hP hT (c.i 1 (q := d_i_NoName) (by rfl) (by rfl)) x80 x81 (He.glo_ok X G (c.d.fact 21 (f := .glo "NoName") (by rfl))) (by rfl) (NdefX.nscope_by (by kernel_rfl)) (by rfl) (by kernel_rfl) (by rfl) (fun _ => rfl) (fun _ => rfl) (by rfl) (by rfl) (by decide +kernel) (by decide +kernel) (fun _ _ _ _ _ _ us hl => match us, hl with | [_, _], _ => rfl)
  have X_Repeated : XMk P w K mg base 9 1 := xmk1 (ci := 9) (D := He.ga K "Repeated") (N := ["self", "name", "__class__"]) x82 hP hT (c.i 2 (q := d_i_Repeated) (by rfl) (by rfl)) x83 x84 (He.glo_ok X G (c.d.fact 22 (f := .glo "Repeated") (by rfl))) (by rfl) (NdefX.nscope_by (by kernel_rfl)) (by rfl) (by kernel_rfl) (by rfl) (fun _ => rfl) (fun _ => rfl) (by rfl) (by rfl) (by decide +kernel) (by decide +kernel) (fun _ _ _ _ _ _ us hl => match us, hl with | [_, _], _ => rfl)
  have X_WrongMove : XMk P w K mg base 11 1 := xmk1 (ci := 11) (D := He.ga K "WrongMove") (N := ["self", "move", "__class__"]) x85 hP hT (c.i 3 (q := d_i_WrongMove) (by rfl) (by rfl)) x86 x87 (He.glo_ok X G (c.d.fact 23 (f := .glo "WrongMove") (by rfl))) (by rfl) (NdefX.nscope_by (by kernel_rfl)) (by rfl) (by kernel_rfl) (by rfl) (fun _ => rfl) (fun _ => rfl) (by rfl) (by rfl) (by decide +kernel) (by decide +kernel) (fun _ _ _ _ _ _ us hl => match us, hl with | [_, _], _ => rfl)
  have X_BadRun : XMk P w K mg base 12 1 := xmk1 (ci := 12) (D := He.ga K "BadRun") (N := ["self", "at", "__class__"]) x88 hP hT (c.i 4 (q := d_i_BadRun) (by rfl) (by rfl)) x89 x90 (He.glo_ok X G (c.d.fact 24 (f := .glo "BadRun") (by rfl))) (by rfl) (NdefX.nscope_by (by kernel_rfl)) (by rfl) (by kernel_rfl) (by rfl) (fun _ => rfl) (fun _ => rfl) (by rfl) (by rfl) (by decide +kernel) (by decide +kernel) (fun _ _ _ _ _ _ us hl => match us, hl with | [_, _], _ => rfl)
  have X_NoThread : XMk P w K mg base 13 1 := xmk1 (ci := 13) (D := He.ga K "NoThread") (N := ["self", "thread", "__class__"]) x91 hP hT (c.i 5 (q := d_i_NoThread) (by rfl) (by rfl)) x92 x93 (He.glo_ok X G (c.d.fact 25 (f := .glo "NoThread") (by rfl))) (by rfl) (NdefX.nscope_by (by kernel_rfl)) (by rfl) (by kernel_rfl) (by rfl) (fun _ => rfl) (fun _ => rfl) (by rfl) (by rfl) (by decide +kernel) (by decide +kernel) (fun _ _ _ _ _ _ us hl => match us, hl with | [_, _], _ => rfl)
  have X_MustWait : XMk P w K mg base 14 1 := xmk2 (ci := 14) (D := He.ga K "MustWait") (N := ["self", "lock", "blocker", "__class__"]) x94 hP hT (c.i 6 (q := d_i_MustWait) (by rfl) (by rfl)) x95 x96 (He.glo_ok X G (c.d.fact 26 (f := .glo "MustWait") (by rfl))) (by rfl) (NdefX.nscope_by (by kernel_rfl)) (by rfl) (by kernel_rfl) (by rfl) (fun _ => rfl) (fun _ => rfl) (fun _ => rfl) (by rfl) (by rfl) (by rfl) (by decide +kernel) (by decide +kernel) (by decide +kernel) (fun _ _ _ _ _ _ us hl => match us, hl with | [_, _, _], _ => rfl)
  have X_Refused : XMk P w K mg base 15 1 := xmk1 (ci := 15) (D := He.ga K "Refused") (N := ["self", "at", "__class__"]) x97 hP hT (c.i 7 (q := d_i_Refused) (by rfl) (by rfl)) x98 x99 (He.glo_ok X G (c.d.fact 27 (f := .glo "Refused") (by rfl))) (by rfl) (NdefX.nscope_by (by kernel_rfl)) (by rfl) (by kernel_rfl) (by rfl) (fun _ => rfl) (fun _ => rfl) (by rfl) (by rfl) (by decide +kernel) (by decide +kernel) (fun _ _ _ _ _ _ us hl => match us, hl with | [_, _], _ => rfl)
  have X_Deadlocked : XMk P w K mg base 16 1 := xmk1 (ci := 16) (D := He.ga K "Deadlocked") (N := ["self", "cycle", "__class__"]) x100 hP hT (c.i 8 (q := d_i_Deadlocked) (by rfl) (by rfl)) x101 x102 (He.glo_ok X G (c.d.fact 28 (f := .glo "Deadlocked") (by rfl))) (by rfl) (NdefX.nscope_by (by kernel_rfl)) (by rfl) (by kernel_rfl) (by rfl) (fun _ => rfl) (fun _ => rfl) (by rfl) (by rfl) (by decide +kernel) (by decide +kernel) (fun _ _ _ _ _ _ us hl => match us, hl with | [_, _], _ => rfl)
  have X_NoRequest : XMk P w K mg base 17 1 := xmk1 (ci := 17) (D := He.ga K "NoRequest") (N := ["self", "request", "__class__"]) x103 hP hT (c.i 9 (q := d_i_NoRequest) (by rfl) (by rfl)) x104 x105 (He.glo_ok X G (c.d.fact 29 (f := .glo "NoRequest") (by rfl))) (by rfl) (NdefX.nscope_by (by kernel_rfl)) (by rfl) (by kernel_rfl) (by rfl) (fun _ => rfl) (fun _ => rfl) (by rfl) (by rfl) (by decide +kernel) (by decide +kernel) (fun _ _ _ _ _ _ us hl => match us, hl with | [_, _], _ => rfl)
  have X_NoContext : XMk P w K mg base 18 1 := xmk1 (ci := 18) (D := He.ga K "NoContext") (N := ["self", "context", "__class__"]) x106 hP hT (c.i 10 (q := d_i_NoContext) (by rfl) (by rfl)) x107 x108 (He.glo_ok X G (c.d.fact 30 (f := .glo "NoContext") (by rfl))) (by rfl) (NdefX.nscope_by (by kernel_rfl)) (by rfl) (by kernel_rfl) (by rfl) (fun _ => rfl) (fun _ => rfl) (by rfl) (by rfl) (by decide +kernel) (by decide +kernel) (fun _ _ _ _ _ _ us hl => match us, hl with | [_, _], _ => rfl)
  have X_Clash : XMk P w K mg base 20 1 := xmk1 (ci := 20) (D := He.ga K "Clash") (N := ["self", "cycle", "__class__"]) x109 hP hT (c.i 11 (q := d_i_Clash) (by rfl) (by rfl)) x110 x111 (He.glo_ok X G (c.d.fact 31 (f := .glo "Clash") (by rfl))) (by rfl) (NdefX.nscope_by (by kernel_rfl)) (by rfl) (by kernel_rfl) (by rfl) (fun _ => rfl) (fun _ => rfl) (by rfl) (by rfl) (by decide +kernel) (by decide +kernel) (fun _ _ _ _ _ _ us hl => match us, hl with | [_, _], _ => rfl)
  have X_NoLockOrder : XMk P w K mg base 21 1 := xmk1 (ci := 21) (D := He.ga K "NoLockOrder") (N := ["self", "cycle", "__class__"]) x112 hP hT (c.i 12 (q := d_i_NoLockOrder) (by rfl) (by rfl)) x113 x114 (He.glo_ok X G (c.d.fact 32 (f := .glo "NoLockOrder") (by rfl))) (by rfl) (NdefX.nscope_by (by kernel_rfl)) (by rfl) (by kernel_rfl) (by rfl) (fun _ => rfl) (fun _ => rfl) (by rfl) (by rfl) (by decide +kernel) (by decide +kernel) (fun _ _ _ _ _ _ us hl => match us, hl with | [_, _], _ => rfl)
  have C__law_numbers : Cal P w K mg base "_law_numbers" 1 sg_law_numbers φ_law_numbers := ok_law_numbers T D_law_numbers (He.glo_ok X G (c.d.fact 34 (f := .glo "_law_numbers") (by rfl)))
  have C__law_names : Cal P w K mg base "_law_names" 1 sg_law_names φ_law_names := ok_law_names T D_law_names (He.glo_ok X G (c.d.fact 35 (f := .glo "_law_names") (by rfl)))
  have C__law_leaf : Cal P w K mg base "_law_leaf" 1 sg_law_leaf φ_law_leaf := ok_law_leaf T D_law_leaf (He.glo_ok X G (c.d.fact 36 (f := .glo "_law_leaf") (by rfl)))
  have C__law_same : Cal P w K mg base "_law_same" 2 sg_law_same φ_law_same := ok_law_same T C__law_leaf D_law_same (He.glo_ok X G (c.d.fact 37 (f := .glo "_law_same") (by rfl)))
  have C__law_raise : Cal P w K mg base "_law_raise" 3 sg_law_raise φ_law_raise := ok_law_raise T X_BadForm X_Misplaced X_Duplicate X_Unknown X_NotNested X_TooMany X_TooLong X_NoName X_Repeated X_WrongMove X_BadRun X_NoThread X_MustWait X_Refused X_Deadlocked X_NoRequest X_NoContext X_Clash X_NoLockOrder X_LineError D_law_raise (He.glo_ok X G (c.d.fact 38 (f := .glo "_law_raise") (by rfl)))
  have C__law_kinds : Cal P w K mg base "_law_kinds" 4 sg_law_kinds φ_law_kinds := ok_law_kinds T C__law_raise D_law_kinds (He.glo_ok X G (c.d.fact 39 (f := .glo "_law_kinds") (by rfl)))
  have C__law_line_field : Cal P w K mg base "_law_line_field" 4 sg_law_line_field φ_law_line_field := ok_law_line_field T C__law_raise D_law_line_field (He.glo_ok X G (c.d.fact 40 (f := .glo "_law_line_field") (by rfl)))
  have C__law_fields : Cal P w K mg base "_law_fields" 4 sg_law_fields φ_law_fields := ok_law_fields T C__law_raise D_law_fields (He.glo_ok X G (c.d.fact 41 (f := .glo "_law_fields") (by rfl)))
  exact def_ok D_law sc_law rfl rfl (by decide) rfl (body_law T C__law_numbers C__law_names C__law_kinds C__law_same C__law_line_field C__law_fields)
end Z

set_option maxHeartbeats 4000000
/-! Plain texts: join, split, names. -/
namespace Q
open PySem PySem.Spec PyProof.Rows
abbrev sp : Str := " "
abbrev nl : Str := "\n"
def flat (c : Nat) (l : List Str) : List Nat := l.flatMap fun b => c :: b.cps.toList
theorem join_list (c : Nat) : ∀ (l : List Str) (a : Str), (Str.join ⟨#[c]⟩ (a :: l)).cps.toList = a.cps.toList ++ flat c l
  | [], a => by simp [Str.join, flat]
  | b :: l, a => by
    have ih := join_list c l b
    show (a.cps ++ #[c] ++ (Str.join ⟨#[c]⟩ (b :: l)).cps).toList = _
    rw [Array.toList_append, Array.toList_append, ih]
    simp [flat]
theorem cut_eq {c : Nat} : ∀ {a b s t : List Nat}, c ∉ a → c ∉ b → a ++ c :: s = b ++ c :: t → a = b ∧ s = t
  | [], [], s, t, _, _, h => by simp at h; exact ⟨rfl, h⟩
  | [], y :: b, s, t, _, hb, h => by simp at h; exact absurd (by simp [h.1]) hb
  | x :: a, [], s, t, ha, _, h => by simp at h; exact absurd (by simp [h.1]) ha
  | x :: a, y :: b, s, t, ha, hb, h => by
    simp at h
    obtain ⟨e1, e2⟩ := cut_eq (a := a) (b := b) (fun q => ha (List.mem_cons_of_mem _ q)) (fun q => hb (List.mem_cons_of_mem _ q)) h.2
    exact ⟨by rw [h.1, e1], e2⟩
theorem str_ext {a b : Str} (h : a.cps.toList = b.cps.toList) : a = b := Str.ext' (Array.toList_inj.mp h)
theorem flat_inj {c : Nat} : ∀ {l m : List Str} {a b : Str}, (∀ x ∈ a :: l, c ∉ x.cps.toList) → (∀ x ∈ b :: m, c ∉ x.cps.toList) → a.cps.toList ++ flat c l = b.cps.toList ++ flat c m → a :: l = b :: m
  | [], [], a, b, _, _, h => by simp only [flat, List.flatMap_nil, List.append_nil] at h; rw [str_ext h]
  | [], y :: m, a, b, ha, _, h => by
    simp only [flat, List.flatMap_nil, List.append_nil, List.flatMap_cons, List.cons_append] at h
    exact absurd (by rw [h]; simp) (ha a (List.mem_cons_self ..))
  | x :: l, [], a, b, _, hb, h => by
    simp only [flat, List.flatMap_nil, List.append_nil, List.flatMap_cons, List.cons_append] at h
    exact absurd (by rw [← h]; simp) (hb b (List.mem_cons_self ..))
  | x :: l, y :: m, a, b, ha, hb, h => by
    simp only [flat, List.flatMap_cons, List.cons_append] at h
    obtain ⟨e1, e2⟩ := cut_eq (ha a (List.mem_cons_self ..)) (hb b (List.mem_cons_self ..)) h
    rw [str_ext e1, flat_inj (fun z hz => ha z (List.mem_cons_of_mem _ hz)) (fun z hz => hb z (List.mem_cons_of_mem _ hz)) e2]
theorem split_ne (x y : Str) : Txt.split x y ≠ [] := by
  unfold Txt.split
  split
  · exact List.cons_ne_nil _ _
  · split
    · exact List.cons_ne_nil _ _
    · rw [StrLaws.partsBetween_eq]
      obtain ⟨p, r, e⟩ := StrLaws.partsFrom_ne x y.length 0 (Builtin.Str.occurrences x y 0 x.length (x.length + 1))
      rw [e]; exact List.cons_ne_nil _ _
theorem split_join {c : Nat} {a : Str} {l : List Str} (h : ∀ x ∈ a :: l, c ∉ x.cps.toList) : Txt.split (Str.join ⟨#[c]⟩ (a :: l)) ⟨#[c]⟩ = a :: l := by
  have e := StrLaws.join_split (Str.join ⟨#[c]⟩ (a :: l)) ⟨#[c]⟩
  have f := StrLaws.split_free (Str.join ⟨#[c]⟩ (a :: l)) c
  cases q : Txt.split (Str.join ⟨#[c]⟩ (a :: l)) ⟨#[c]⟩ with
  | nil =>
    exact absurd q (split_ne _ _)
  | cons b m =>
    rw [q] at e f
    refine (flat_inj h f ?_).symm
    rw [← join_list, ← join_list, e]
theorem sp_eq : sp = ⟨#[32]⟩ := by decide +kernel
theorem nl_eq : nl = ⟨#[10]⟩ := by decide +kernel
theorem len_join_le (c : Nat) (B : Nat) : ∀ (l : List Str), (∀ x ∈ l, x.length ≤ B) → (Str.join ⟨#[c]⟩ l).length ≤ l.length * (B + 1)
  | [], _ => by simp [Str.join, Str.empty, Str.length]
  | [a], h => by have := h a (List.mem_cons_self ..); simp [Str.join]; omega
  | a :: b :: r, h => by
    have ih := len_join_le c B (b :: r) fun x hx => h x (List.mem_cons_of_mem _ hx)
    have ha := h a (List.mem_cons_self ..)
    show (a ++ ⟨#[c]⟩ ++ Str.join ⟨#[c]⟩ (b :: r)).length ≤ _
    rw [Str.length_append, Str.length_append]
    have : (⟨#[c]⟩ : Str).length = 1 := rfl
    simp only [List.length_cons] at ih ⊢
    rw [this]
    have e : (r.length + 1 + 1) * (B + 1) = (r.length + 1) * (B + 1) + (B + 1) := by rw [Nat.add_mul]; omega
    omega
theorem join_eq (a : Str) (l : List Str) : Txt.join a l = Str.join a l := StrLaws.glued_eq_join a l
theorem mem_join {c q : Nat} : ∀ (l : List Str), q ∈ (Str.join ⟨#[c]⟩ l).cps.toList → q = c ∨ ∃ x ∈ l, q ∈ x.cps.toList
  | [], h => by simp [Str.join, Str.empty] at h
  | a :: l, h => by
    rw [join_list] at h
    rcases List.mem_append.mp h with h | h
    · exact .inr ⟨a, List.mem_cons_self .., h⟩
    · simp only [flat, List.mem_flatMap, List.mem_cons] at h
      obtain ⟨b, hb, h | h⟩ := h
      · exact .inl h
      · exact .inr ⟨b, List.mem_cons_of_mem _ hb, h⟩
theorem strOk_of {x : Str} (h : ∀ q ∈ x.cps.toList, q < 0x110000) : PyData.strOk x = true := by
  unfold PyData.strOk
  rw [Array.all_eq_true_iff_forall_mem]
  intro q hq
  exact decide_eq_true (h q (by simpa using hq))
/-- a word: 1 to 8 small letters -/
abbrev al : Str := "abcdefghijklmnopqrstuvwxyz"
abbrev inAl (q : Nat) : Bool := decide (q ∈ al.cps.toList)
def nameB (w : Str) : Bool := decide (1 ≤ w.length) && decide (w.length ≤ 8) && w.cps.toList.all inAl
theorem al_lo {q : Nat} (h : inAl q = true) : 97 ≤ q ∧ q ≤ 122 := by
  have h1 : q ∈ al.cps.toList := of_decide_eq_true h
  have e : ∀ q ∈ al.cps.toList, 97 ≤ q ∧ q ≤ 122 := by decide +kernel
  exact e q h1
structure Wd (w : Str) : Prop where
  lo : 1 ≤ w.length
  hi : w.length ≤ 8
  al : ∀ q ∈ w.cps.toList, 97 ≤ q ∧ q ≤ 122
theorem wd_of {w : Str} (h : nameB w = true) : Wd w := by
  unfold nameB at h
  rw [Bool.and_eq_true, Bool.and_eq_true, List.all_eq_true] at h
  exact ⟨of_decide_eq_true h.1.1, of_decide_eq_true h.1.2, fun q hq => al_lo (h.2 q hq)⟩
theorem Wd.no32 {w : Str} (h : Wd w) : 32 ∉ w.cps.toList := fun q => by have := h.al 32 q; omega
theorem Wd.no10 {w : Str} (h : Wd w) : 10 ∉ w.cps.toList := fun q => by have := h.al 10 q; omega
theorem Wd.ok {w : Str} (h : Wd w) : PyData.strOk w = true := strOk_of fun q hq => by have := h.al q hq; omega
/-- a line: its words -/
def ln (ws : List Str) : Str := Str.join sp ws
theorem ln_split {a : Str} {l : List Str} (h : ∀ x ∈ a :: l, Wd x) : Txt.split (ln (a :: l)) sp = a :: l := by
  unfold ln
  rw [sp_eq]
  exact split_join fun x hx => (h x hx).no32
theorem ln_len {l : List Str} (h : ∀ x ∈ l, Wd x) : (ln l).length ≤ l.length * 9 := by
  unfold ln
  rw [sp_eq]
  exact len_join_le 32 8 l fun x hx => (h x hx).hi
theorem ln_mem {l : List Str} (h : ∀ x ∈ l, Wd x) {q : Nat} (hq : q ∈ (ln l).cps.toList) : q = 32 ∨ (97 ≤ q ∧ q ≤ 122) := by
  unfold ln at hq
  rw [sp_eq] at hq
  rcases mem_join l hq with h1 | ⟨x, hx, h1⟩
  · exact .inl h1
  · exact .inr ((h x hx).al q h1)
theorem ln_ok {l : List Str} (h : ∀ x ∈ l, Wd x) : PyData.strOk (ln l) = true := strOk_of fun q hq => by have := ln_mem h hq; omega
theorem ln_no10 {l : List Str} (h : ∀ x ∈ l, Wd x) : 10 ∉ (ln l).cps.toList := fun hq => by have := ln_mem h hq; omega
/-- a text: its lines -/
def tx (ls : List (List Str)) : Str := Str.join nl (ls.map ln)
theorem tx_split {a : List Str} {l : List (List Str)} (h : ∀ x ∈ a :: l, ∀ w ∈ x, Wd w) : Txt.split (tx (a :: l)) nl = (a :: l).map ln := by
  unfold tx
  rw [nl_eq, List.map_cons]
  refine split_join fun x hx => ?_
  rw [← List.map_cons (f := ln)] at hx
  obtain ⟨y, hy, rfl⟩ := List.mem_map.mp hx
  exact ln_no10 (h y hy)
theorem tx_len {ls : List (List Str)} (B : Nat) (h : ∀ x ∈ ls, ∀ w ∈ x, Wd w) (hB : ∀ x ∈ ls, x.length ≤ B) : (tx ls).length ≤ ls.length * (B * 9 + 1) := by
  unfold tx
  rw [nl_eq]
  have := len_join_le 10 (B * 9) (ls.map ln) fun x hx => by
    obtain ⟨y, hy, rfl⟩ := List.mem_map.mp hx
    have h1 := ln_len (h y hy)
    have h2 := Nat.mul_le_mul_right 9 (hB y hy)
    omega
  rw [List.length_map] at this
  exact this
theorem split_d {z w : Str} {l : List Str} (h1 : (w.length == 0) = false) (h2 : z.length ≤ 1000000) (h : Txt.split z w = l) (ho : ∀ x ∈ l, PyData.strOk x = true) : Ev.splitD (.str z) [.str w] = some (Ev.strL l) := by
  show (if _ then _ else _) = _
  rw [if_pos, h]
  refine ⟨h1, ?_, ?_⟩
  · have : 1000002 ≤ sizeLine := by decide +kernel
    omega
  · rw [h, List.all_eq_true]; exact ho
theorem strs_d : ∀ l : List Str, Ev.strsD (l.map Ev.D.str) = some l
  | [] => rfl
  | a :: l => by simp only [List.map_cons, Ev.strsD, strs_d l, Option.map_some]
theorem sum_len (B : Nat) : ∀ l : List Str, (∀ x ∈ l, x.length ≤ B) → (l.map (·.length)).sum ≤ l.length * B
  | [], _ => by simp
  | a :: l, h => by
    have h1 := sum_len B l fun x hx => h x (List.mem_cons_of_mem _ hx)
    have h2 := h a (List.mem_cons_self ..)
    simp only [List.map_cons, List.sum_cons, List.length_cons, Nat.add_mul]
    omega
theorem join_d {a : Str} {l : List Str} (ha : a.length ≤ 1) (hl : l.length ≤ 1000) (hB : ∀ x ∈ l, x.length ≤ 1000) : Ev.joinD (.str a) [.lst (l.map Ev.D.str)] = some (.str (Str.join a l)) := by
  show Ev.joinGo a (l.map Ev.D.str) = _
  unfold Ev.joinGo
  rw [strs_d]
  show (if _ then _ else _) = _
  have h1 := sum_len 1000 l hB
  have h2 : l.length * a.length ≤ l.length * 1 := Nat.mul_le_mul_left _ ha
  rw [if_pos (by omega), join_eq]
end Q

set_option maxHeartbeats 4000000
/-! Libraries, plainly: their parts, their text, the reader's steps, and that reading gives the parts back. -/
namespace Q
open PySem PySem.Spec PyProof.Rows
structure Hk where
  n : Str
  late : Bool
  cbs : List Str
structure Rt where
  n : Str
  rows : List (Str × Str)
structure Lb where
  locks : List Str
  hooks : List Hk
  routs : List Rt
  ents : List Str
abbrev Hk.wd (h : Hk) : Str := if h.late then "deferred" else "hook"
def Hk.ws (h : Hk) : List Str := h.wd :: h.n :: h.cbs
abbrev rws (p : Str × Str) : List Str := [p.1, p.2]
def Rt.ws (r : Rt) : List (List Str) := ["routine", r.n] :: (r.rows.map rws ++ [(["end"] : List Str)])
def lw (x : Str) : List Str := ["lock", x]
def ew (x : Str) : List Str := ["entry", x]
def Lb.ws (L : Lb) : List (List Str) := L.locks.map lw ++ (L.hooks.map Hk.ws ++ (L.routs.flatMap Rt.ws ++ L.ents.map ew))
def Lb.text (L : Lb) : Str := tx L.ws
/-! ### statements of a body -/
structure Ctx where
  locks : List Str
  hooks : List Str
  rts : List Str
  lens : List (Str × Int)
def stm (C : Ctx) (tk : List Str) (c : Int) (w x : Str) : Option (List Str × Int) :=
  if w = "acquire" then (if x ∈ C.locks then some (tk ++ [x], c + 1) else none)
  else if w = "release" then (if x ∈ C.locks ∧ tk.getLast? = some x then some (tk.dropLast, c + 1) else none)
  else if w = "call" then (C.lens.lookup x).map fun k => (tk, c + k + 1)
  else if w = "invoke" then (if x ∈ C.hooks then some (tk, c + 1) else none)
  else if w = "maybe" then (if x ∈ C.rts then some (tk, c + 1) else none) else none
def stms (C : Ctx) : List Str → Int → List (Str × Str) → Option (List Str × Int)
  | tk, c, [] => some (tk, c)
  | tk, c, (w, x) :: r => (stm C tk c w x).bind fun q => stms C q.1 q.2 r
theorem stms_app (C : Ctx) : ∀ (a b : List (Str × Str)) (tk : List Str) (c : Int), stms C tk c (a ++ b) = (stms C tk c a).bind fun q => stms C q.1 q.2 b
  | [], b, tk, c => rfl
  | (w, x) :: a, b, tk, c => by
    simp only [List.cons_append, stms]
    cases stm C tk c w x with
    | none => rfl
    | some q => simp only [Option.bind_some]; exact stms_app C a b q.1 q.2
def BodyOk (C : Ctx) (rows : List (Str × Str)) (c : Int) : Prop := stms C [] 0 rows = some ([], c) ∧ rows.length ≤ 10 ∧ c + 1 ≤ 60
def RoutsOk (lk hk rn : List Str) : List (Str × Int) → List Rt → Prop
  | _, [] => True
  | le, r :: rs => ∃ c, BodyOk ⟨lk, hk, rn, le⟩ r.rows c ∧ RoutsOk lk hk rn (le ++ [(r.n, c + 1)]) rs
structure Lb.Good (L : Lb) : Prop where
  nm : ∀ x ∈ L.locks ++ (L.hooks.map Hk.n ++ L.routs.map Rt.n), nameB x = true
  nd : (L.locks ++ (L.hooks.map Hk.n ++ L.routs.map Rt.n)).Nodup
  l5 : L.locks.length ≤ 5
  h4 : L.hooks.length ≤ 4
  r5 : L.routs.length ≤ 5
  cb : ∀ h ∈ L.hooks, h.cbs.Nodup ∧ h.cbs.length ≤ 5 ∧ ∀ x ∈ h.cbs, x ∈ L.routs.map Rt.n
  en : L.ents.Nodup ∧ L.ents.length ≤ 5 ∧ ∀ x ∈ L.ents, x ∈ L.routs.map Rt.n
  bo : RoutsOk L.locks (L.hooks.map Hk.n) (L.routs.map Rt.n) [] L.routs
/-! ### the reader -/
structure RS where
  known : List Str
  locks : List Str
  hooks : List Hk
  routs : List Rt
  ents : List Str
  lens : List (Str × Int)
  exp : List (Int × Str)
  part : Int
  cur : Option Str
  body : List (Str × Str)
  taken : List Str
  cost : Int
def RS.ctx (s : RS) (rts : List Str) : Ctx := ⟨s.locks, s.hooks.map Hk.n, rts, s.lens⟩
def rdE (num : Int) (cbs : List Str) : List (Int × Str) := cbs.map fun x => (num, x)
/-- one line, read; rts: the names that a maybe may have -/
def rd (rts : List Str) (s : RS) (num : Int) : List Str → Option RS
  | w :: x :: cbs =>
    if w = "lock" then (if s.cur = none ∧ s.part = 0 ∧ x ∉ s.known ∧ cbs = [] ∧ s.locks.length < 5 ∧ s.hooks.length ≤ 4 ∧ s.routs.length ≤ 5 then some { s with known := s.known ++ [x], locks := s.locks ++ [x], part := 0 } else none)
    else if w = "hook" ∨ w = "deferred" then (if s.cur = none ∧ s.part ≤ 1 ∧ x ∉ s.known ∧ cbs.Nodup ∧ cbs.length ≤ 5 ∧ s.locks.length ≤ 5 ∧ s.hooks.length < 4 ∧ s.routs.length ≤ 5 ∧ s.exp.length ≤ 1000 then some { s with known := s.known ++ [x], hooks := s.hooks ++ [⟨x, decide (w = "deferred"), cbs⟩], exp := s.exp ++ rdE num cbs, part := 1 } else none)
    else if w = "routine" then (if s.cur = none ∧ s.part ≤ 2 ∧ x ∉ s.known ∧ cbs = [] ∧ s.locks.length ≤ 5 ∧ s.hooks.length ≤ 4 ∧ s.routs.length < 5 then some { s with known := s.known ++ [x], part := 2, cur := some x, body := [], taken := [], cost := 0 } else none)
    else if w = "entry" then (if s.cur = none ∧ s.part ≤ 3 ∧ x ∈ s.lens.map (·.1) ∧ x ∉ s.ents ∧ cbs = [] ∧ s.ents.length ≤ 1000 then some { s with part := 3, ents := s.ents ++ [x] } else none)
    else if s.cur = none ∨ cbs ≠ [] ∨ 10 ≤ s.body.length ∨ 1000 < s.exp.length ∨ 1000 < s.taken.length then none else
      (stm (s.ctx rts) s.taken s.cost w x).map fun q => { s with taken := q.1, cost := q.2, body := s.body ++ [(w, x)], exp := if w = "maybe" then s.exp ++ [(num, x)] else s.exp }
  | [w] => match s.cur with
    | none => none
    | some x => if w = "end" ∧ s.taken = [] ∧ s.cost + 1 ≤ 60 ∧ x ∉ s.lens.map (·.1) ∧ s.routs.length ≤ 5 ∧ s.lens.length ≤ 5 then some { s with lens := s.lens ++ [(x, s.cost + 1)], routs := s.routs ++ [⟨x, s.body⟩], cur := none } else none
  | [] => none
def rds (rts : List Str) : RS → Int → List (List Str) → Option RS
  | s, _, [] => some s
  | s, n, l :: ls => (rd rts s n l).bind fun s' => rds rts s' (n + 1) ls
theorem rds_app (rts : List Str) : ∀ (a b : List (List Str)) (s : RS) (n : Int), rds rts s n (a ++ b) = (rds rts s n a).bind fun s' => rds rts s' (n + a.length) b
  | [], b, s, n => by simp [rds]
  | l :: a, b, s, n => by
    simp only [List.cons_append, rds]
    cases rd rts s n l with
    | none => rfl
    | some q =>
      simp only [Option.bind_some]
      rw [rds_app rts a b q (n + 1), List.length_cons]
      congr 1
      funext s'
      congr 1
      omega
def rs0 : RS := ⟨[], [], [], [], [], [], [], 0, none, [], [], 0⟩
theorem rds_locks (rts : List Str) : ∀ (l : List Str) (s : RS) (n : Int), s.cur = none → s.part = 0 → (∀ x ∈ l, x ∉ s.known) → l.Nodup → s.locks.length + l.length ≤ 5 → s.hooks.length ≤ 4 → s.routs.length ≤ 5 →
    rds rts s n (l.map lw) = some { s with known := s.known ++ l, locks := s.locks ++ l }
  | [], s, n, _, _, _, _, _, _, _ => by simp [rds]
  | x :: l, s, n, h1, h2, h3, h4, h5, h6, h7 => by
    rw [List.nodup_cons] at h4
    have e : rd rts s n (lw x) = some { s with known := s.known ++ [x], locks := s.locks ++ [x], part := 0 } := by
      simp only [lw, rd, if_true]
      rw [if_pos ⟨h1, h2, h3 x (List.mem_cons_self ..), trivial, by simp only [List.length_cons] at h5; omega, h6, h7⟩]
    simp only [List.map_cons, rds, e, Option.bind_some]
    rw [rds_locks rts l { s with known := s.known ++ [x], locks := s.locks ++ [x], part := 0 } (n + 1) h1 rfl ?_ h4.2 ?_ h6 h7]
    · simp [h2]
    · intro y hy
      simp only [List.mem_append, List.mem_singleton, not_or]
      exact ⟨h3 y (List.mem_cons_of_mem _ hy), fun e => h4.1 (e ▸ hy)⟩
    · simp only [List.length_append, List.length_cons, List.length_nil] at h5 ⊢; omega
theorem wd_ne : ((("hook" : Str) = "lock") = False) ∧ ((("deferred" : Str) = "lock") = False) := by constructor <;> exact eq_false (by decide +kernel)
theorem rds_hooks (rts : List Str) : ∀ (l : List Hk) (s : RS) (n : Int), s.cur = none → s.part ≤ 1 → (∀ x ∈ l.map Hk.n, x ∉ s.known) → (l.map Hk.n).Nodup → s.locks.length ≤ 5 → s.hooks.length + l.length ≤ 4 → s.routs.length ≤ 5 →
    (∀ h ∈ l, h.cbs.Nodup ∧ h.cbs.length ≤ 5 ∧ ∀ x ∈ h.cbs, x ∈ rts) → s.exp.length ≤ 5 * s.hooks.length → (∀ e ∈ s.exp, e.2 ∈ rts) →
    ∃ p e, rds rts s n (l.map Hk.ws) = some { s with known := s.known ++ l.map Hk.n, hooks := s.hooks ++ l, exp := e, part := p } ∧ p ≤ 1 ∧ e.length ≤ 5 * (s.hooks.length + l.length) ∧ ∀ q ∈ e, q.2 ∈ rts
  | [], s, n, h1, h2, h3, h4, h5, h6, h7, h8, h9, h10 => ⟨s.part, s.exp, by simp [rds], h2, by simpa using h9, h10⟩
  | h :: l, s, n, h1, h2, h3, h4, h5, h6, h7, h8, h9, h10 => by
    rw [List.map_cons, List.nodup_cons] at h4
    obtain ⟨c1, c2, c3⟩ := h8 h (List.mem_cons_self ..)
    have hx : h.n ∉ s.known := h3 h.n (by simp)
    have hl : s.hooks.length < 4 := by simp only [List.length_cons] at h6; omega
    have e : rd rts s n h.ws = some { s with known := s.known ++ [h.n], hooks := s.hooks ++ [h], exp := s.exp ++ rdE n h.cbs, part := 1 } := by
      obtain ⟨nm, late, cbs⟩ := h
      have a1 : ((if late then "deferred" else "hook" : Str) = "lock") = False := by cases late <;> exact eq_false (by decide +kernel)
      have a2 : ((if late then "deferred" else "hook" : Str) = "hook" ∨ (if late then "deferred" else "hook" : Str) = "deferred") = True := by cases late <;> exact eq_true (by decide +kernel)
      have a3 : decide ((if late then "deferred" else "hook" : Str) = "deferred") = late := by cases late <;> decide +kernel
      simp only [Hk.ws, rd, a1, a2, a3, if_true, if_false]
      rw [if_pos ⟨h1, h2, hx, c1, c2, h5, hl, h7, by omega⟩]
    simp only [List.map_cons, rds, e, Option.bind_some]
    obtain ⟨p, e2, q1, q2, q3, q4⟩ := rds_hooks rts l { s with known := s.known ++ [h.n], hooks := s.hooks ++ [h], exp := s.exp ++ rdE n h.cbs, part := 1 } (n + 1) h1 (Int.le_refl _) (by
      intro y hy
      simp only [List.mem_append, List.mem_singleton, not_or]
      exact ⟨h3 y (by simp only [List.map_cons, List.mem_cons]; exact .inr hy), fun e => h4.1 (e ▸ hy)⟩) h4.2 h5 (by simp only [List.length_append, List.length_cons, List.length_nil] at h6 ⊢; omega) h7 (fun k hk => h8 k (List.mem_cons_of_mem _ hk))
      (by simp only [List.length_append, List.length_cons, List.length_nil, rdE, List.length_map]; omega) (by
        intro q hq
        rcases List.mem_append.mp hq with hq | hq
        · exact h10 q hq
        · obtain ⟨z, hz, rfl⟩ := List.mem_map.mp hq
          exact c3 z hz)
    refine ⟨p, e2, ?_, q2, ?_, q4⟩
    · rw [q1]; simp
    · simp only [List.length_append, List.length_cons, List.length_nil] at q3 ⊢; omega
theorem exp_len (w : Str) (n : Int) (y : Str) (l : List (Int × Str)) : (if w = "maybe" then l ++ [(n, y)] else l).length ≤ l.length + 1 := by split <;> simp
theorem rds_body (rts : List Str) : ∀ (l : List (Str × Str)) (s : RS) (n : Int) (x : Str) (C : Ctx) (tk' : List Str) (c' : Int), s.cur = some x → C = s.ctx rts → stms C s.taken s.cost l = some (tk', c') → s.body.length + l.length ≤ 10 → s.taken.length ≤ s.body.length → s.exp.length ≤ 900 + s.body.length → (∀ e ∈ s.exp, e.2 ∈ rts) →
    ∃ e, rds rts s n (l.map rws) = some { s with exp := e, body := s.body ++ l, taken := tk', cost := c' } ∧ e.length ≤ s.exp.length + l.length ∧ ∀ q ∈ e, q.2 ∈ rts
  | [], s, n, x, C, tk', c', h1, hC, h2, h3, h4, h5, h6 => by
    simp only [stms, Option.some.injEq, Prod.mk.injEq] at h2
    obtain ⟨rfl, rfl⟩ := h2
    exact ⟨s.exp, by simp [rds], by simp, h6⟩
  | (w, y) :: l, s, n, x, C, tk', c', h1, hC, h2, h3, h4, h5, h6 => by
    simp only [stms] at h2
    cases q : stm C s.taken s.cost w y with
    | none => rw [q] at h2; cases h2
    | some q2 =>
      rw [q, Option.bind_some] at h2
      simp only [List.length_cons] at h3
      have w1 : w = "acquire" ∨ w = "release" ∨ w = "call" ∨ w = "invoke" ∨ (w = "maybe" ∧ y ∈ rts) := by
        unfold stm at q
        split at q
        · exact .inl ‹_›
        · split at q
          · exact .inr (.inl ‹_›)
          · split at q
            · exact .inr (.inr (.inl ‹_›))
            · split at q
              · exact .inr (.inr (.inr (.inl ‹_›)))
              · split at q
                · rename_i hw
                  split at q
                  · rename_i hy
                    subst hC
                    exact .inr (.inr (.inr (.inr ⟨hw, hy⟩)))
                  · cases q
                · cases q
      have tl : q2.1.length ≤ s.taken.length + 1 := by
        unfold stm at q
        split at q
        · split at q <;> cases q; simp
        · split at q
          · split at q <;> cases q; simp; omega
          · split at q
            · obtain ⟨k, _, rfl⟩ := Option.map_eq_some_iff.mp q; simp
            · split at q
              · split at q <;> cases q; simp
              · split at q
                · split at q <;> cases q; simp
                · cases q
      have nw : (w = "lock") = False ∧ (w = "hook" ∨ w = "deferred") = False ∧ (w = "routine") = False ∧ (w = "entry") = False := by
        rcases w1 with rfl | rfl | rfl | rfl | ⟨rfl, _⟩ <;> exact ⟨eq_false (by decide +kernel), eq_false (by decide +kernel), eq_false (by decide +kernel), eq_false (by decide +kernel)⟩
      have e : rd rts s n [w, y] = some { s with taken := q2.1, cost := q2.2, body := s.body ++ [(w, y)], exp := if w = "maybe" then s.exp ++ [(n, y)] else s.exp } := by
        simp only [rd, nw.1, nw.2.1, nw.2.2.1, nw.2.2.2, if_false]
        rw [if_neg, ← hC, q]
        · rfl
        · simp only [h1, reduceCtorEq, ne_eq, not_true_eq_false, false_or]
          omega
      simp only [List.map_cons, rds, e, Option.bind_some]
      obtain ⟨e2, r1, r2, r3⟩ := rds_body rts l { s with taken := q2.1, cost := q2.2, body := s.body ++ [(w, y)], exp := if w = "maybe" then s.exp ++ [(n, y)] else s.exp } (n + 1) x C tk' c' h1 hC h2
        (by simp only [List.length_append, List.length_cons, List.length_nil]; omega) (by simp only [List.length_append, List.length_cons, List.length_nil]; omega)
        (by
          have := exp_len w n y s.exp
          simp only [List.length_append, List.length_cons, List.length_nil]; omega)
        (by
          intro z hz
          rcases w1 with rfl | rfl | rfl | rfl | ⟨rfl, hy⟩
          · exact h6 z (by simpa [show ((("acquire" : Str) = "maybe") = False) from eq_false (by decide +kernel)] using hz)
          · exact h6 z (by simpa [show ((("release" : Str) = "maybe") = False) from eq_false (by decide +kernel)] using hz)
          · exact h6 z (by simpa [show ((("call" : Str) = "maybe") = False) from eq_false (by decide +kernel)] using hz)
          · exact h6 z (by simpa [show ((("invoke" : Str) = "maybe") = False) from eq_false (by decide +kernel)] using hz)
          · simp only [if_true] at hz
            rcases List.mem_append.mp hz with hz | hz
            · exact h6 z hz
            · rw [List.mem_singleton.mp hz]; exact hy)
      refine ⟨e2, ?_, ?_, r3⟩
      · rw [r1]; simp
      · simp only [List.length_cons]
        have := exp_len w n y s.exp
        have r2 : e2.length ≤ (if w = "maybe" then s.exp ++ [(n, y)] else s.exp).length + l.length := r2
        omega
theorem rds_routs (rts lk hk : List Str) : ∀ (l : List Rt) (s : RS) (n : Int), s.cur = none → s.part ≤ 2 → (∀ x ∈ l.map Rt.n, x ∉ s.known) → (l.map Rt.n).Nodup → s.locks = lk → s.hooks.map Hk.n = hk → lk.length ≤ 5 → hk.length ≤ 4 → s.routs.length + l.length ≤ 5 →
    s.lens.map (·.1) = s.routs.map Rt.n → (∀ x ∈ s.routs.map Rt.n, x ∈ s.known) → RoutsOk lk hk rts s.lens l → s.exp.length ≤ 20 + 10 * s.routs.length → (∀ e ∈ s.exp, e.2 ∈ rts) →
    ∃ s', rds rts s n (l.flatMap Rt.ws) = some s' ∧ s'.locks = s.locks ∧ s'.hooks = s.hooks ∧ s'.routs = s.routs ++ l ∧ s'.ents = s.ents ∧ s'.cur = none ∧ s'.part ≤ 2 ∧ s'.lens.map (·.1) = s'.routs.map Rt.n ∧ ∀ q ∈ s'.exp, q.2 ∈ rts
  | [], s, n, h1, h2, h3, h4, h5, h6, h7, h8, h9, h10, h11, h12, h13, h14 => ⟨s, by simp [rds], rfl, rfl, by simp, rfl, h1, h2, h10, h14⟩
  | r :: l, s, n, h1, h2, h3, h4, h5, h6, h7, h8, h9, h10, h11, h12, h13, h14 => by
    obtain ⟨c, ⟨b1, b2, b3⟩, h12⟩ := h12
    rw [List.map_cons, List.nodup_cons] at h4
    simp only [List.length_cons] at h9
    have hx : r.n ∉ s.known := h3 r.n (by simp)
    have hh : s.hooks.length ≤ 4 := by rw [← h6, List.length_map] at h8; exact h8
    have w0 : ((("routine" : Str) = "lock") = False) ∧ ((("routine" : Str) = "hook" ∨ ("routine" : Str) = "deferred") = False) := ⟨eq_false (by decide +kernel), eq_false (by decide +kernel)⟩
    have e : rd rts s n ["routine", r.n] = some { s with known := s.known ++ [r.n], part := 2, cur := some r.n, body := [], taken := [], cost := 0 } := by
      simp only [rd, w0.1, w0.2, if_true, if_false]
      rw [if_pos ⟨h1, h2, hx, trivial, by rw [h5]; exact h7, hh, by omega⟩]
    obtain ⟨e2, r1, r2, r3⟩ := rds_body rts r.rows { s with known := s.known ++ [r.n], part := 2, cur := some r.n, body := [], taken := [], cost := 0 } (n + 1) r.n ⟨lk, hk, rts, s.lens⟩ [] c rfl (by simp only [RS.ctx, h5, h6]) b1 (by simpa using b2) (by simp) (by simp only [List.length_nil]; omega) h14
    have e3 : ∀ m, rd rts { s with known := s.known ++ [r.n], part := 2, cur := some r.n, body := [] ++ r.rows, taken := [], cost := c, exp := e2 } m ["end"] = some { s with known := s.known ++ [r.n], part := 2, cur := none, body := r.rows, taken := [], cost := c, exp := e2, lens := s.lens ++ [(r.n, c + 1)], routs := s.routs ++ [r] } := by
      intro m
      simp only [rd]
      rw [if_pos ⟨trivial, trivial, b3, by rw [h10]; exact fun q => hx (h11 _ q), by omega, by rw [← List.length_map (f := (·.1)), h10, List.length_map]; omega⟩]
      simp
    obtain ⟨s', q1, q2, q3, q4, q5, q6, q7, q8, q9⟩ := rds_routs rts lk hk l { s with known := s.known ++ [r.n], part := 2, cur := none, body := r.rows, taken := [], cost := c, exp := e2, lens := s.lens ++ [(r.n, c + 1)], routs := s.routs ++ [r] } (n + r.ws.length) rfl (Int.le_refl _)
      (by
        intro y hy
        simp only [List.mem_append, List.mem_singleton, not_or]
        exact ⟨h3 y (by simp only [List.map_cons, List.mem_cons]; exact .inr hy), fun e => h4.1 (e ▸ hy)⟩) h4.2 h5 h6 h7 h8 (by simp only [List.length_append, List.length_cons, List.length_nil]; omega)
      (by simp [h10]) (by
        intro y hy
        simp only [List.map_append, List.map_cons, List.map_nil, List.mem_append, List.mem_singleton] at hy ⊢
        exact hy.imp (h11 y) id) h12 (by simp only [List.length_append, List.length_cons, List.length_nil] at r2 ⊢; omega) r3
    refine ⟨s', ?_, q2, q3, by rw [q4]; simp, q5, q6, q7, q8, q9⟩
    rw [List.flatMap_cons, rds_app]
    have : rds rts s n r.ws = some { s with known := s.known ++ [r.n], part := 2, cur := none, body := r.rows, taken := [], cost := c, exp := e2, lens := s.lens ++ [(r.n, c + 1)], routs := s.routs ++ [r] } := by
      simp only [Rt.ws, rds, e, Option.bind_some]
      rw [rds_app, r1]
      simp only [Option.bind_some, rds]
      rw [e3]
      rfl
    rw [this]
    exact q1
theorem rds_ents (rts : List Str) : ∀ (l : List Str) (s : RS) (n : Int), s.cur = none → s.part ≤ 3 → (∀ x ∈ l, x ∉ s.ents) → l.Nodup → (∀ x ∈ l, x ∈ s.lens.map (·.1)) → s.ents.length + l.length ≤ 1000 →
    ∃ p, rds rts s n (l.map ew) = some { s with ents := s.ents ++ l, part := p }
  | [], s, n, _, _, _, _, _, _ => ⟨s.part, by simp [rds]⟩
  | x :: l, s, n, h1, h2, h3, h4, h5, h6 => by
    rw [List.nodup_cons] at h4
    simp only [List.length_cons] at h6
    have w0 : ((("entry" : Str) = "lock") = False) ∧ ((("entry" : Str) = "hook" ∨ ("entry" : Str) = "deferred") = False) ∧ ((("entry" : Str) = "routine") = False) := ⟨eq_false (by decide +kernel), eq_false (by decide +kernel), eq_false (by decide +kernel)⟩
    have e : rd rts s n (ew x) = some { s with part := 3, ents := s.ents ++ [x] } := by
      simp only [ew, rd, w0.1, w0.2.1, w0.2.2, if_true, if_false]
      rw [if_pos ⟨h1, h2, h5 x (List.mem_cons_self ..), h3 x (List.mem_cons_self ..), trivial, by omega⟩]
    obtain ⟨p, q⟩ := rds_ents rts l { s with part := 3, ents := s.ents ++ [x] } (n + 1) h1 (Int.le_refl _) (by
      intro y hy
      simp only [List.mem_append, List.mem_singleton, not_or]
      exact ⟨h3 y (List.mem_cons_of_mem _ hy), fun e => h4.1 (e ▸ hy)⟩) h4.2 (fun y hy => h5 y (List.mem_cons_of_mem _ hy)) (by simp only [List.length_append, List.length_cons, List.length_nil]; omega)
    refine ⟨p, ?_⟩
    simp only [List.map_cons, rds, e, Option.bind_some]
    rw [q]
    simp
theorem Lb.reads {L : Lb} (g : L.Good) : ∃ s, rds (L.routs.map Rt.n) rs0 1 L.ws = some s ∧ s.locks = L.locks ∧ s.hooks = L.hooks ∧ s.routs = L.routs ∧ s.ents = L.ents ∧ s.cur = none ∧ s.lens.map (·.1) = L.routs.map Rt.n ∧ ∀ q ∈ s.exp, q.2 ∈ L.routs.map Rt.n := by
  obtain ⟨nm, nd, l5, h4, r5, cb, en, bo⟩ := g
  rw [List.nodup_append] at nd
  obtain ⟨n1, n2, n3⟩ := nd
  rw [List.nodup_append] at n2
  obtain ⟨n2, n4, n5⟩ := n2
  have e1 := rds_locks (L.routs.map Rt.n) L.locks rs0 1 rfl rfl (fun x _ h => by cases h) n1 (by simpa [rs0] using l5) (by decide) (by decide)
  obtain ⟨p, e, e2, e3, e4, e5⟩ := rds_hooks (L.routs.map Rt.n) L.hooks { rs0 with known := rs0.known ++ L.locks, locks := rs0.locks ++ L.locks } (1 + (L.locks.map lw).length) rfl (show (0:Int) ≤ 1 by decide) (by
    intro x hx hk
    exact n3 x (by simpa [rs0] using hk) x (List.mem_append_left _ hx) rfl) n2 (by simpa [rs0] using l5) (by simpa [rs0] using h4) (Nat.zero_le _) cb (Nat.zero_le _) (fun q h => by cases h)
  obtain ⟨s3, f1, f2, f3, f4, f5, f6, f7, f8, f9⟩ := rds_routs (L.routs.map Rt.n) L.locks (L.hooks.map Hk.n) L.routs { rs0 with known := rs0.known ++ L.locks ++ L.hooks.map Hk.n, locks := rs0.locks ++ L.locks, hooks := rs0.hooks ++ L.hooks, exp := e, part := p } (1 + (L.locks.map lw).length + (L.hooks.map Hk.ws).length) rfl (by show p ≤ 2; omega) (by
    intro x hx hk
    simp only [rs0, List.nil_append, List.mem_append] at hk
    rcases hk with hk | hk
    · exact n3 x hk x (List.mem_append_right _ hx) rfl
    · exact n5 x hk x hx rfl) n4 rfl rfl l5 (by rw [List.length_map]; exact h4) (by simpa [rs0] using r5) rfl (fun x h => by cases h) bo (by
      simp only [rs0, List.length_nil] at e4 ⊢
      show e.length ≤ _
      omega) e5
  obtain ⟨p4, g1⟩ := rds_ents (L.routs.map Rt.n) L.ents s3 (1 + (L.locks.map lw).length + (L.hooks.map Hk.ws).length + (L.routs.flatMap Rt.ws).length) f6 (by omega) (by
    rw [f5]; intro x _ h; cases h) en.1 (by
    intro x hx
    rw [f8, f4]
    exact en.2.2 x hx) (by rw [f5]; have := en.2.1; simp [rs0]; omega)
  refine ⟨{ s3 with ents := s3.ents ++ L.ents, part := p4 }, ?_, ?_, ?_, ?_, ?_, f6, ?_, f9⟩
  · unfold Lb.ws
    rw [rds_app, e1, Option.bind_some, rds_app, e2, Option.bind_some, rds_app, f1, Option.bind_some, g1]
  · rw [f2]; rfl
  · rw [f3]; rfl
  · rw [f4]; rfl
  · show s3.ents ++ L.ents = _; rw [f5]; rfl
  · rw [f8, f4]; rfl
end Q

set_option maxHeartbeats 4000000
/-! The words of a good library's lines. -/
namespace Q
open PySem PySem.Spec PyProof.Rows
theorem look_mem {α : Type} {x : Str} {k : α} : ∀ {l : List (Str × α)}, l.lookup x = some k → x ∈ l.map (·.1)
  | [], h => by cases h
  | (y, v) :: l, h => by
    rw [List.lookup_cons] at h
    by_cases e : x = y
    · simp [e]
    · have : (x == y) = false := by simpa using e
      rw [this] at h
      simp [look_mem h]
def Kw (w : Str) : Prop := w = "acquire" ∨ w = "release" ∨ w = "call" ∨ w = "invoke" ∨ w = "maybe"
theorem stm_mem {C : Ctx} {tk : List Str} {c : Int} {w x : Str} {q : List Str × Int} (h : stm C tk c w x = some q) : Kw w ∧ (x ∈ C.locks ∨ x ∈ C.hooks ∨ x ∈ C.rts ∨ x ∈ C.lens.map (·.1)) := by
  unfold stm at h
  split at h
  · split at h
    · exact ⟨.inl ‹_›, .inl ‹_›⟩
    · cases h
  · split at h
    · split at h
      · rename_i hw hx; exact ⟨.inr (.inl hw), .inl hx.1⟩
      · cases h
    · split at h
      · rename_i hw
        obtain ⟨k, hk, _⟩ := Option.map_eq_some_iff.mp h
        exact ⟨.inr (.inr (.inl hw)), .inr (.inr (.inr (look_mem hk)))⟩
      · split at h
        · split at h
          · exact ⟨.inr (.inr (.inr (.inl ‹_›))), .inr (.inl ‹_›)⟩
          · cases h
        · split at h
          · split at h
            · exact ⟨.inr (.inr (.inr (.inr ‹_›))), .inr (.inr (.inl ‹_›))⟩
            · cases h
          · cases h
theorem stms_mem {C : Ctx} : ∀ {l : List (Str × Str)} {tk : List Str} {c : Int} {q : List Str × Int}, stms C tk c l = some q → ∀ p ∈ l, Kw p.1 ∧ (p.2 ∈ C.locks ∨ p.2 ∈ C.hooks ∨ p.2 ∈ C.rts ∨ p.2 ∈ C.lens.map (·.1))
  | [], _, _, _, _, p, hp => by cases hp
  | (w, x) :: l, tk, c, q, h, p, hp => by
    simp only [stms] at h
    cases e : stm C tk c w x with
    | none => rw [e] at h; cases h
    | some q2 =>
      rw [e, Option.bind_some] at h
      rcases List.mem_cons.mp hp with rfl | hp
      · exact stm_mem e
      · exact stms_mem h p hp
theorem routs_mem {lk hk rn : List Str} : ∀ {l : List Rt} {le : List (Str × Int)}, RoutsOk lk hk rn le l → (∀ x ∈ le.map (·.1), x ∈ rn) → (∀ x ∈ l.map Rt.n, x ∈ rn) → ∀ r ∈ l, r.rows.length ≤ 10 ∧ ∀ p ∈ r.rows, Kw p.1 ∧ (p.2 ∈ lk ∨ p.2 ∈ hk ∨ p.2 ∈ rn)
  | [], _, _, _, _, r, hr => by cases hr
  | r0 :: l, le, h, h1, h2, r, hr => by
    obtain ⟨c, ⟨b1, b2, b3⟩, h⟩ := h
    rcases List.mem_cons.mp hr with rfl | hr
    · refine ⟨b2, fun p hp => ?_⟩
      obtain ⟨k, q⟩ := stms_mem b1 p hp
      refine ⟨k, ?_⟩
      rcases q with q | q | q | q
      · exact .inl q
      · exact .inr (.inl q)
      · exact .inr (.inr q)
      · exact .inr (.inr (h1 _ q))
    · exact routs_mem h (by
        intro x hx
        simp only [List.map_append, List.map_cons, List.map_nil, List.mem_append, List.mem_singleton] at hx
        rcases hx with hx | rfl
        · exact h1 x hx
        · exact h2 _ (by simp)) (fun x hx => h2 x (by simp only [List.map_cons, List.mem_cons]; exact .inr hx)) r hr
theorem wd_dec {w : Str} (h : nameB w = true) : Wd w := wd_of h
theorem Kw.wd {w : Str} (h : Kw w) : nameB w = true := by rcases h with rfl | rfl | rfl | rfl | rfl <;> decide +kernel
theorem Lb.Good.lk {L : Lb} (g : L.Good) {x : Str} (h : x ∈ L.locks) : nameB x = true := g.nm x (List.mem_append_left _ h)
theorem Lb.Good.hk {L : Lb} (g : L.Good) {x : Str} (h : x ∈ L.hooks.map Hk.n) : nameB x = true := g.nm x (List.mem_append_right _ (List.mem_append_left _ h))
theorem Lb.Good.rk {L : Lb} (g : L.Good) {x : Str} (h : x ∈ L.routs.map Rt.n) : nameB x = true := g.nm x (List.mem_append_right _ (List.mem_append_right _ h))
theorem Lb.Good.rows {L : Lb} (g : L.Good) {r : Rt} (h : r ∈ L.routs) : r.rows.length ≤ 10 ∧ ∀ p ∈ r.rows, Kw p.1 ∧ nameB p.2 = true := by
  obtain ⟨h1, h2⟩ := routs_mem g.bo (fun x h => by cases h) (fun x h => h) r h
  refine ⟨h1, fun p hp => ⟨(h2 p hp).1, ?_⟩⟩
  rcases (h2 p hp).2 with q | q | q
  · exact g.lk q
  · exact g.hk q
  · exact g.rk q
theorem Lb.Good.line {L : Lb} (g : L.Good) : ∀ ws ∈ L.ws, (ws ≠ [] ∧ ws.length ≤ 7) ∧ ∀ w ∈ ws, nameB w = true := by
  intro ws h
  unfold Lb.ws at h
  simp only [List.mem_append] at h
  rcases h with h | h | h | h
  · obtain ⟨x, hx, rfl⟩ := List.mem_map.mp h
    refine ⟨⟨List.cons_ne_nil _ _, by show 2 ≤ 7; decide⟩, fun w hw => ?_⟩
    rcases List.mem_cons.mp hw with rfl | hw
    · decide +kernel
    · rw [List.mem_singleton.mp hw]; exact g.lk hx
  · obtain ⟨k, hk, rfl⟩ := List.mem_map.mp h
    obtain ⟨c1, c2, c3⟩ := g.cb k hk
    refine ⟨⟨List.cons_ne_nil _ _, by simp only [Hk.ws, List.length_cons]; omega⟩, fun w hw => ?_⟩
    unfold Hk.ws at hw
    rcases List.mem_cons.mp hw with rfl | hw
    · unfold Hk.wd; split <;> decide +kernel
    · rcases List.mem_cons.mp hw with rfl | hw
      · exact g.hk (List.mem_map_of_mem (f := Hk.n) hk)
      · exact g.rk (c3 w hw)
  · obtain ⟨r, hr, h⟩ := List.mem_flatMap.mp h
    obtain ⟨r1, r2⟩ := g.rows hr
    unfold Rt.ws at h
    rcases List.mem_cons.mp h with rfl | h
    · refine ⟨⟨List.cons_ne_nil _ _, by simp⟩, fun w hw => ?_⟩
      rcases List.mem_cons.mp hw with rfl | hw
      · decide +kernel
      · rw [List.mem_singleton.mp hw]; exact g.rk (List.mem_map_of_mem (f := Rt.n) hr)
    · rcases List.mem_append.mp h with h | h
      · obtain ⟨p, hp, rfl⟩ := List.mem_map.mp h
        refine ⟨⟨List.cons_ne_nil _ _, by simp⟩, fun w hw => ?_⟩
        rcases List.mem_cons.mp hw with rfl | hw
        · exact (r2 p hp).1.wd
        · rw [List.mem_singleton.mp hw]; exact (r2 p hp).2
      · rw [List.mem_singleton.mp h]
        refine ⟨⟨List.cons_ne_nil _ _, by simp⟩, fun w hw => ?_⟩
        rw [List.mem_singleton.mp hw]; decide +kernel
  · obtain ⟨x, hx, rfl⟩ := List.mem_map.mp h
    refine ⟨⟨List.cons_ne_nil _ _, by show 2 ≤ 7; decide⟩, fun w hw => ?_⟩
    rcases List.mem_cons.mp hw with rfl | hw
    · decide +kernel
    · rw [List.mem_singleton.mp hw]; exact g.rk (g.en.2.2 x hx)
theorem flat_len {α β : Type} (f : α → List β) (B : Nat) : ∀ l : List α, (∀ x ∈ l, (f x).length ≤ B) → (l.flatMap f).length ≤ l.length * B
  | [], _ => by simp
  | a :: l, h => by
    have h1 := flat_len f B l fun x hx => h x (List.mem_cons_of_mem _ hx)
    have h2 := h a (List.mem_cons_self ..)
    rw [List.flatMap_cons, List.length_append, List.length_cons, Nat.add_mul]
    omega
theorem Lb.Good.few {L : Lb} (g : L.Good) : L.ws.length ≤ 74 := by
  have h := flat_len Rt.ws 12 L.routs fun r hr => by
    have := (g.rows hr).1
    simp only [Rt.ws, List.length_cons, List.length_append, List.length_map, List.length_nil]; omega
  have h5 := g.l5
  have h4 := g.h4
  have hr := g.r5
  have he := g.en.2.1
  have hm : L.routs.length * 12 ≤ 5 * 12 := Nat.mul_le_mul_right 12 hr
  simp only [Lb.ws, List.length_append, List.length_map]
  omega
theorem Lb.Good.small {L : Lb} (g : L.Good) : L.text.length ≤ 5000 := by
  have h := tx_len (ls := L.ws) 7 (fun x hx w hw => wd_of ((g.line x hx).2 w hw)) fun x hx => (g.line x hx).1.2
  have := g.few
  unfold Lb.text
  omega
theorem Lb.Good.split {L : Lb} (g : L.Good) (h : L.ws ≠ []) : Txt.split L.text nl = L.ws.map ln := by
  unfold Lb.text
  cases e : L.ws with
  | nil => exact absurd e h
  | cons a l =>
    refine tx_split fun x hx w hw => ?_
    rw [← e] at hx
    exact wd_of ((g.line x hx).2 w hw)
theorem ln_pos {a : Str} {l : List Str} (h : Wd a) : 1 ≤ (ln (a :: l)).length := by
  have e : (ln (a :: l)).cps.toList = a.cps.toList ++ flat 32 l := by unfold ln; rw [sp_eq]; exact join_list 32 l a
  have h1 := congrArg List.length e
  rw [List.length_append] at h1
  have h2 := h.lo
  have h3 : (ln (a :: l)).cps.toList.length = (ln (a :: l)).length := rfl
  have h4 : a.cps.toList.length = a.length := rfl
  omega
theorem Lb.Good.ne {L : Lb} (g : L.Good) (h : L.ws ≠ []) : L.text ≠ "" := by
  intro e
  cases q : L.ws with
  | nil => exact h q
  | cons a l =>
    have h1 : (tx (a :: l)).cps.toList = (ln a).cps.toList ++ flat 10 (l.map ln) := by unfold tx; rw [nl_eq, List.map_cons]; exact join_list 10 _ _
    obtain ⟨⟨h2, _⟩, h3⟩ := g.line a (by rw [q]; exact List.mem_cons_self ..)
    cases a with
    | nil => exact h2 rfl
    | cons w r =>
      have h4 := ln_pos (l := r) (wd_of (h3 w (List.mem_cons_self ..)))
      unfold Lb.text at e
      rw [q] at e
      rw [e] at h1
      have h5 := congrArg List.length h1
      have h6 : (("" : Str).cps.toList).length = 0 := by decide +kernel
      have h7 : (ln (w :: r)).cps.toList.length = (ln (w :: r)).length := rfl
      rw [List.length_append, h6] at h5
      omega
theorem Lb.empty {L : Lb} (h : L.ws = []) : L = ⟨[], [], [], []⟩ := by
  obtain ⟨a, b, c, d⟩ := L
  unfold Lb.ws at h
  simp only [List.append_eq_nil_iff, List.map_eq_nil_iff] at h
  obtain ⟨rfl, rfl, h3, rfl⟩ := h
  cases c with
  | nil => rfl
  | cons r c => simp [Rt.ws] at h3
end Q

set_option maxHeartbeats 4000000
/-! Data: what the kit-free functions say of strings, lists and slices. -/
namespace Q
open PySem PySem.Spec PyProof.Rows L2 Ev
theorem sL : 1000000 < sizeLine := by decide +kernel
theorem lt_sL {n : Nat} (h : n ≤ 1000000) : n < sizeLine := Nat.lt_of_le_of_lt h sL
theorem le_sL {n : Nat} (h : n ≤ 1000000) : n ≤ sizeLine := Nat.le_of_lt (lt_sL h)
theorem seq_nx {g k : So} {δ δ' : Ev.Env} (h : g δ = some (.nx δ')) : sSeq g k δ = k δ' := by simp only [sSeq, seqO, h]
theorem seq_ret {g k : So} {δ δ' : Ev.Env} {d : D} (h : g δ = some (.ret d δ')) : sSeq g k δ = some (.ret d δ') := by simp only [sSeq, seqO, h]
theorem forGo_ind {t : Tg} {body : So} (I : Nat → Ev.Env → Prop) : ∀ (ds : List D) (k : Nat) (δ : Ev.Env), I k δ → (∀ i d δ, ds[i]? = some d → I (k + i) δ → ∃ δ1 δ2, bindT t d δ = some δ1 ∧ body δ1 = some (.nx δ2) ∧ I (k + i + 1) δ2) → ∃ δ', forGo t body ds δ = some (.nx δ') ∧ I (k + ds.length) δ'
  | [], k, δ, h, _ => ⟨δ, rfl, h⟩
  | d :: ds, k, δ, h, st => by
    obtain ⟨δ1, δ2, e1, e2, h2⟩ := st 0 d δ rfl h
    obtain ⟨δ', e3, h3⟩ := forGo_ind I ds (k + 1) δ2 h2 fun i d δ e q => by
      have := st (i + 1) d δ (by simpa using e) (by rw [show k + (i + 1) = k + 1 + i by omega]; exact q)
      rw [show k + (i + 1) + 1 = k + 1 + i + 1 by omega] at this
      exact this
    refine ⟨δ', ?_, by rw [List.length_cons, show k + (ds.length + 1) = k + 1 + ds.length by omega]; exact h3⟩
    simp only [forGo, e1, e2, Option.bind_some, e3]
/-- a loop over a list of things: the invariant speaks of what is done and what is left -/
theorem forGo_list {α : Type} {enc : α → D} {t : Tg} {body : So} (I : List α → Ev.Env → Prop) : ∀ (l : List α) (dn : List α) (δ : Ev.Env), I dn δ → (∀ dn x r δ, dn ++ x :: r = dn ++ x :: r → I dn δ → x ∈ l → (∃ p q, l = p ++ x :: q) → ∃ δ1 δ2, bindT t (enc x) δ = some δ1 ∧ body δ1 = some (.nx δ2) ∧ I (dn ++ [x]) δ2) → ∃ δ', forGo t body (l.map enc) δ = some (.nx δ') ∧ I (dn ++ l) δ'
  | [], dn, δ, h, _ => ⟨δ, rfl, by simpa using h⟩
  | x :: l, dn, δ, h, st => by
    obtain ⟨δ1, δ2, e1, e2, h2⟩ := st dn x l δ rfl h (List.mem_cons_self ..) ⟨[], l, rfl⟩
    obtain ⟨δ', e3, h3⟩ := forGo_list I l (dn ++ [x]) δ2 h2 fun dn' y r δ e q hy ⟨a, b, hab⟩ => st dn' y r δ e q (List.mem_cons_of_mem _ hy) ⟨x :: a, b, by rw [hab]; rfl⟩
    refine ⟨δ', ?_, by simpa using h3⟩
    simp only [List.map_cons, forGo, e1, e2, Option.bind_some, e3]
theorem atI_lit {α : Type} (xs : List α) (k : Nat) : atI xs (k : Int) = xs[k]? := by
  unfold atI ixN
  rw [if_pos (Int.natCast_nonneg k)]
  by_cases h : k < xs.length
  · rw [if_pos (by omega)]; simp
  · rw [if_neg (by omega)]
    simp; omega
theorem rngD_len (n : Nat) : (rngD 0 (n : Int)).length = n := by simp [rngD]
theorem rngD_get {n i : Nat} {d : D} (h : (rngD 0 (n : Int))[i]? = some d) : d = .int (i : Int) ∧ i < n := by
  unfold rngD at h
  rw [List.getElem?_map] at h
  cases e : (List.range ((n : Int) - 0).toNat)[i]? with
  | none => rw [e] at h; cases h
  | some q =>
    rw [e] at h
    obtain ⟨h1, h2⟩ := List.getElem?_eq_some_iff.mp e
    rw [List.getElem_range] at h2
    subst h2
    rw [List.length_range] at h1
    cases h
    exact ⟨by simp, by omega⟩
theorem rngOk0 {n : Nat} (h : n ≤ 1000000) : rngOk 0 (n : Int) = some (rngD 0 (n : Int)) := by
  unfold rngOk
  rw [if_pos]
  simp only [Bool.and_eq_true, decide_eq_true_eq]
  omega
theorem cut_none {α : Type} (xs : List α) : cutG xs none none = xs := by unfold cutG; simp [HT.sIx]
theorem cut_lo {α : Type} (xs : List α) (a : Nat) : cutG xs (some (a : Int)) none = xs.drop a := by
  unfold cutG
  rw [HT.sIx_nat]
  show (xs.drop (min a xs.length)).take (xs.length - min a xs.length) = _
  by_cases h : a ≤ xs.length
  · rw [Nat.min_eq_left h, List.take_of_length_le (by rw [List.length_drop]; omega)]
  · rw [Nat.min_eq_right (by omega), List.drop_of_length_le (Nat.le_refl _), List.drop_of_length_le (by omega), List.take_nil]
theorem cut_hi {α : Type} (xs : List α) (b : Nat) : cutG xs none (some (b : Int)) = xs.take b := by
  unfold cutG
  rw [HT.sIx_nat]
  show (xs.drop 0).take (min b xs.length - 0) = _
  rw [List.drop_zero, Nat.sub_zero]
  by_cases h : b ≤ xs.length
  · rw [Nat.min_eq_left h]
  · rw [Nat.min_eq_right (by omega), List.take_of_length_le (Nat.le_refl _), List.take_of_length_le (by omega)]
theorem cut_both {α : Type} (xs : List α) (a b : Nat) : cutG xs (some (a : Int)) (some (b : Int)) = (xs.take b).drop a := by
  unfold cutG
  rw [HT.sIx_nat, HT.sIx_nat]
  rw [← List.drop_take]
  by_cases h : b ≤ xs.length
  · rw [Nat.min_eq_left h]
    by_cases h2 : a ≤ xs.length
    · rw [Nat.min_eq_left h2]
    · rw [Nat.min_eq_right (by omega), List.drop_of_length_le (by rw [List.length_take]; omega), List.drop_of_length_le (by rw [List.length_take]; omega)]
  · rw [Nat.min_eq_right (by omega : xs.length ≤ b), List.take_of_length_le (Nat.le_refl _), List.take_of_length_le (by omega)]
    by_cases h2 : a ≤ xs.length
    · rw [Nat.min_eq_left h2]
    · rw [Nat.min_eq_right (by omega), List.drop_of_length_le (Nat.le_refl _), List.drop_of_length_le (by omega)]
theorem cut_last {α : Type} (xs : List α) : cutG xs (some (-1)) none = xs.drop (xs.length - 1) := by
  unfold cutG
  have e : HT.sIx xs.length 0 (some (-1)) = xs.length - 1 := by
    show (if (-1 : Int) < 0 then ((-1 : Int) + (xs.length : Int)).toNat else min (-1 : Int).toNat xs.length) = _
    rw [if_pos (by decide)]; omega
  rw [e]
  show (xs.drop (xs.length - 1)).take (xs.length - (xs.length - 1)) = _
  rw [List.take_of_length_le (by rw [List.length_drop]; omega)]
theorem eq_int (i j : Int) : eqD (.int i) (.int j) = some (decide (i = j)) := by unfold eqD; rw [if_pos (by simp [okD])]; rfl
theorem eq_bl (i j : Bool) : eqD (.bl i) (.bl j) = some (i == j) := by unfold eqD; rw [if_pos (by simp [okD])]; rfl
theorem eq_str (x y : Str) : eqD (.str x) (.str y) = some (decide (x = y)) := by unfold eqD; rw [if_pos (by simp [okD])]; rfl
theorem ne_str (x y : Str) : neD (.str x) (.str y) = some (!decide (x = y)) := by unfold neD; rw [eq_str]; rfl
theorem okDs_str (n : Nat) : ∀ l : List Str, okDs n (l.map D.str) = true
  | [] => by cases n <;> rfl
  | x :: l => by rw [List.map_cons]; unfold okDs; rw [okDs_str n l]; cases n <;> rfl
theorem any_str (x : Str) : ∀ l : List Str, ((l.map D.str).any fun z => eqB z (.str x)) = decide (x ∈ l)
  | [] => rfl
  | y :: l => by
    rw [List.map_cons, List.any_cons, any_str x l]
    have : eqB (.str y) (.str x) = decide (y = x) := rfl
    rw [this]
    by_cases h : y = x
    · subst h; simp
    · have h2 : ¬ x = y := fun e => h e.symm
      simp [h, h2]
theorem in_lst (x : Str) (l : List Str) : inN false (.str x) (.lst (l.map D.str)) = some (decide (x ∈ l)) := by
  simp only [inN, inD, inS, okDs_str, any_str, okD, Bool.and_self, if_true, Bool.false_eq_true, if_false]
theorem nin_lst (x : Str) (l : List Str) : inN true (.str x) (.lst (l.map D.str)) = some (!decide (x ∈ l)) := by
  simp only [inN, inD, inS, okDs_str, any_str, okD, Bool.and_self, if_true, Option.map_some]
theorem in_tup (x : Str) (l : List Str) : inN false (.str x) (.tup (l.map D.str)) = some (decide (x ∈ l)) := by
  simp only [inN, inD, inS, okDs_str, any_str, okD, Bool.and_self, if_true, Bool.false_eq_true, if_false]
theorem nin_tup (x : Str) (l : List Str) : inN true (.str x) (.tup (l.map D.str)) = some (!decide (x ∈ l)) := by
  simp only [inN, inD, inS, okDs_str, any_str, okD, Bool.and_self, if_true, Option.map_some]
def keys (l : List Str) : List Key := l.map .inr
theorem any_key (x : Str) : ∀ l : List Str, ((keys l).any fun j => decide (j = (.inr x : Key))) = decide (x ∈ l)
  | [] => rfl
  | y :: l => by
    unfold keys at *
    rw [List.map_cons, List.any_cons]
    have := any_key x l
    unfold keys at this
    rw [this]
    by_cases h : y = x
    · subst h; simp
    · have h2 : ¬ x = y := fun e => h e.symm
      simp [h, h2]
theorem in_dic (x : Str) (l : List Str) (vs : List D) : inN false (.str x) (.dic (keys l) vs) = some (decide (x ∈ l)) := by
  show (some ((keys l).any _) : Option Bool) = _
  rw [any_key]
theorem nin_dic (x : Str) (l : List Str) (vs : List D) : inN true (.str x) (.dic (keys l) vs) = some (!decide (x ∈ l)) := by
  show (some (!((keys l).any _)) : Option Bool) = _
  rw [any_key]
theorem put_ks {x : Str} {l : List Str} (h : x ∉ l) : putKs (.inr x) (keys l) = keys (l ++ [x]) := by
  unfold putKs
  rw [any_key, if_neg (by simpa using h)]
  simp [keys]
theorem put_ds {x : Str} {l : List Str} {v : D} {ds : List D} (h : x ∉ l) : putDs (.inr x) v (keys l) ds = ds ++ [v] := by
  unfold putDs
  rw [any_key, if_neg (by simpa using h)]
theorem look_d (x : Str) : ∀ l : List (Str × Int), lookD (.inr x) (keys (l.map (·.1))) (l.map fun q => .int q.2) = (l.lookup x).map D.int
  | [] => rfl
  | (y, v) :: l => by
    show (if (Sum.inr y : Key) = .inr x then _ else lookD (.inr x) (keys (l.map (·.1))) (l.map fun q => .int q.2)) = _
    rw [look_d x l, List.lookup_cons]
    by_cases h : x = y
    · subst h; simp
    · have h2 : ¬ y = x := fun e => h e.symm
      have h3 : (x == y) = false := by simpa using h
      simp [h2, h3]
/-! ### the parts as data -/
def rwD (p : Str × Str) : D := .tup [.str p.1, .str p.2]
def Hk.t (h : Hk) : D := .tup [.str h.n, .bl h.late, .tup (h.cbs.map D.str)]
def Hk.d (h : Hk) : D := .lst [.str h.n, .bl h.late, .lst (h.cbs.map D.str)]
def Rt.t (r : Rt) : D := .tup [.str r.n, .tup (r.rows.map rwD)]
def Rt.d (r : Rt) : D := .lst [.str r.n, .lst (r.rows.map rwD)]
def Lb.d (L : Lb) : D := .lst [.lst (L.locks.map D.str), .lst (L.hooks.map Hk.d), .lst (L.routs.map Rt.d), .lst (L.ents.map D.str)]
def Lb.t (L : Lb) : D := .ins 0 [.tup (L.locks.map D.str), .tup (L.hooks.map Hk.t), .tup (L.routs.map Rt.t), .tup (L.ents.map D.str)]
def optD : Option Str → D
  | none => .non
  | some x => .str x
def exD (q : Int × Str) : D := .tup [.int q.1, .str q.2]
def RS.d (s : RS) : D := .ins 1 [.dic (keys s.known) (s.known.map fun _ => .bl true), .lst (s.locks.map D.str), .lst (s.hooks.map Hk.t), .lst (s.routs.map Rt.t), .lst (s.ents.map D.str), .dic (keys (s.lens.map (·.1))) (s.lens.map fun q => .int q.2), .lst (s.exp.map exD), .int s.part, optD s.cur, .lst (s.body.map rwD), .lst (s.taken.map D.str), .int s.cost]
theorem lcGo_map {α : Type} {enc : α → D} {t : Tg} {fe : EF} {δ : Ev.Env} (f : α → D) : ∀ l : List α, (∀ x ∈ l, ∃ δ1, bindT t (enc x) δ = some δ1 ∧ fe δ1 = some (.ok (f x))) → lcGo t none fe δ (l.map enc) = some (l.map f)
  | [], _ => rfl
  | x :: l, h => by
    obtain ⟨δ1, e1, e2⟩ := h x (List.mem_cons_self ..)
    have ih := lcGo_map f l fun y hy => h y (List.mem_cons_of_mem _ hy)
    simp only [List.map_cons, lcGo, e1, Option.bind_some, tstD, if_true, eltD, e2, ih, Option.map_some]
theorem lc_map {α : Type} {enc : α → D} {t : Tg} {fe : EF} {fi : EL} {own : List Nat} {δ : Ev.Env} (f : α → D) (l : List α) (hi : fi δ = some (.ok (l.map enc))) (hl : l.length ≤ 1000000) (h : ∀ x ∈ l, ∃ δ1, bindT t (enc x) (unsetL δ own) = some δ1 ∧ fe δ1 = some (.ok (f x))) : lcF t none fe fi own δ = some (.ok (.lst (l.map f))) := by
  unfold lcF
  rw [hi]
  show okO (lcD t none fe (unsetL δ own) (l.map enc)) = _
  unfold lcD
  rw [if_pos (by rw [List.length_map]; exact lt_sL hl), lcGo_map f l h]
  rfl
end Q

namespace Q
end Q

namespace Q
end Q

namespace Q
end Q

namespace Q
end Q

set_option maxHeartbeats 4000000
/-! Texts: the law's and the library's. -/
namespace Q
open PySem PySem.Spec PyProof.Rows L2 Ev Z
theorem at0 {α : Type} (a : α) (l : List α) : atI (a :: l) 0 = some a := atI_lit _ 0
theorem at1 {α : Type} (a b : α) (l : List α) : atI (a :: b :: l) 1 = some b := atI_lit _ 1
theorem at2 {α : Type} (a b c : α) (l : List α) : atI (a :: b :: c :: l) 2 = some c := atI_lit _ 2
theorem at3 {α : Type} (a b c d : α) (l : List α) : atI (a :: b :: c :: d :: l) 3 = some d := atI_lit _ 3
def lns (ls : List (List Str)) : D := .lst ((ls.map ln).map D.str)
theorem lns_app (ls : List (List Str)) (l : List Str) : lns (ls ++ [l]) = .lst ((ls.map ln).map D.str ++ [.str (ln l)]) := by simp [lns]
theorem ln2 (a x : Str) : ln [a, x] = a ++ sp ++ x := rfl
theorem ln_cons (a b : Str) (l : List Str) : ln (a :: b :: l) = a ++ sp ++ ln (b :: l) := rfl
theorem add_str {a b : Str} (ha : a.length ≤ 1000) (hb : b.length ≤ 1000) : addD (.str a) (.str b) = some (.str (a ++ b)) := by
  show (if _ then _ else _) = _
  rw [if_pos (le_sL (by omega))]
theorem lock_sp (x : Str) : ("lock " : Str) ++ x = ln (lw x) := by
  have : ("lock " : Str) = "lock" ++ sp := by decide +kernel
  rw [this]; rfl
theorem entry_sp (x : Str) : ("entry " : Str) ++ x = ln (ew x) := by
  have : ("entry " : Str) = "entry" ++ sp := by decide +kernel
  rw [this]; rfl
theorem rout_sp (x : Str) : ("routine " : Str) ++ x = ln ["routine", x] := by
  have : ("routine " : Str) = "routine" ++ sp := by decide +kernel
  rw [this]; rfl
theorem hook_sp (h : Hk) : (if h.late then ("deferred " : Str) else "hook ") ++ ln (h.n :: h.cbs) = ln h.ws := by
  obtain ⟨n, late, cbs⟩ := h
  have e1 : ("hook " : Str) = "hook" ++ sp := by decide +kernel
  have e2 : ("deferred " : Str) = "deferred" ++ sp := by decide +kernel
  cases late
  · show ("hook " : Str) ++ _ = _; rw [e1]; rfl
  · show ("deferred " : Str) ++ _ = _; rw [e2]; rfl
theorem nm_len {x : Str} (h : nameB x = true) : x.length ≤ 1000 := by have := (wd_of h).hi; omega
theorem end_ln : ("end" : Str) = ln ["end"] := rfl
theorem join_ln {n : Str} {l : List Str} (h : ∀ x ∈ n :: l, nameB x = true) (hl : l.length ≤ 100) : joinD (.str sp) [.lst ((n :: l).map D.str)] = some (.str (ln (n :: l))) := join_d (by decide +kernel) (by simp only [List.length_cons]; omega) fun x hx => by have := (wd_of (h x hx)).hi; omega
def rowL : So := (sSeq (sApp 1 (fBin addD (fBin addD (fIx (evVar 4) (fC (.int 0))) (fC (.str " "))) (fIx (evVar 4) (fC (.int 1))))) sNx)
theorem forGo_pre {α : Type} {enc : α → D} {t : Tg} {body : So} (I : List α → Ev.Env → Prop) (l : List α) (δ : Ev.Env) (h0 : I [] δ) (st : ∀ dn x r δ, l = dn ++ x :: r → I dn δ → ∃ δ1 δ2, bindT t (enc x) δ = some δ1 ∧ body δ1 = some (.nx δ2) ∧ I (dn ++ [x]) δ2) : ∃ δ', forGo t body (l.map enc) δ = some (.nx δ') ∧ I l δ' := by
  have gen : ∀ (m dn : List α) (δ : Ev.Env), l = dn ++ m → I dn δ → ∃ δ', forGo t body (m.map enc) δ = some (.nx δ') ∧ I l δ' := by
    intro m
    induction m with
    | nil => intro dn δ e h; rw [List.append_nil] at e; subst e; exact ⟨δ, rfl, h⟩
    | cons x m ih =>
      intro dn δ e h
      obtain ⟨δ1, δ2, e1, e2, h2⟩ := st dn x m δ e h
      obtain ⟨δ', e3, h3⟩ := ih (dn ++ [x]) δ2 (by rw [e]; simp) h2
      refine ⟨δ', ?_, h3⟩
      simp only [List.map_cons, forGo, e1, e2, Option.bind_some, e3]
  exact gen l [] δ rfl h0
theorem seq1 {g : So} {δ δ' : Ev.Env} (h : g δ = some (.nx δ')) : sSeq g sNx δ = some (.nx δ') := by rw [seq_nx h]; rfl
/-- lines.append(..) -/
theorem app_ln {i : Nat} {fa : EF} {δ : Ev.Env} {ls : List (List Str)} {l : List Str} (h0 : δ[i]? = some (some (lns ls))) (hf : fa δ = some (.ok (.str (ln l)))) (hl : ls.length ≤ 1000000) : sApp i fa δ = some (.nx (δ.set i (some (lns (ls ++ [l]))))) := by
  rw [lns_app]
  simp only [sApp, lstAt, h0, lns, Option.bind_some, hf, bndS, appO, List.length_map, lt_sL hl, if_true]
abbrev rh (x : Str) : List Str := ["routine", x]
theorem rowsT (rows : List (Str × Str)) (ls : List (List Str)) (p h r o : Option D) (hr : ∀ q ∈ rows, nameB q.1 = true ∧ nameB q.2 = true) (hl : ls.length + rows.length ≤ 1000) : ∃ o', forGo (.nm 4) rowL (rows.map rwD) [p, some (lns ls), h, r, o, none] = some (.nx [p, some (lns (ls ++ rows.map rws)), h, r, o', none]) := by
  obtain ⟨δ', e, o', rfl⟩ := forGo_pre (enc := rwD) (t := .nm 4) (body := rowL) (fun dn δ => ∃ o, δ = [p, some (lns (ls ++ dn.map rws)), h, r, o, none]) rows [p, some (lns ls), h, r, o, none] ⟨o, by simp⟩ (by
    rintro dn ⟨w, x⟩ rest δ he ⟨o, rfl⟩
    obtain ⟨n1, n2⟩ := hr (w, x) (by rw [he]; simp)
    have hlen := congrArg List.length he
    simp only [List.length_append, List.length_cons] at hlen
    have l1 : w.length ≤ 8 := (wd_of n1).hi
    have l2 : x.length ≤ 8 := (wd_of n2).hi
    refine ⟨_, _, rfl, ?_, some (rwD (w, x)), rfl⟩
    unfold rowL
    rw [List.map_append, ← List.append_assoc]
    refine seq1 (app_ln rfl ?_ (by simp only [List.length_append, List.length_map]; omega))
    have e1 : addD (.str w) (.str sp) = some (.str (w ++ sp)) := add_str (by omega) (by decide +kernel)
    have l3 : sp.length = 1 := by decide +kernel
    have e2 : addD (.str (w ++ sp)) (.str x) = some (.str (w ++ sp ++ x)) := add_str (by rw [Str.length_append]; omega) (by omega)
    simp only [fBin, fIx, evVar, fC, bnd, okO, List.getElem?_cons_succ, List.getElem?_cons_zero, List.set_cons_succ, List.set_cons_zero, rwD, ixD, at0, at1, e1, e2, rws, ln2])
  exact ⟨o', e⟩
theorem ln7_len {l : List Str} (h : ∀ x ∈ l, nameB x = true) (hl : l.length ≤ 7) : (ln l).length ≤ 63 := by
  have := ln_len fun x hx => wd_of (h x hx)
  omega
theorem lt_two (b : Bool) : atI [D.str ("hook " : Str), .str ("deferred " : Str)] (if b then 1 else 0) = some (.str (if b then ("deferred " : Str) else "hook ")) := by
  cases b
  · exact at0 _ _
  · exact at1 _ _ _
end Q

set_option maxHeartbeats 4000000
/-! The library's answers, and _law_same of equal data. -/
namespace Q
open PySem PySem.Spec PyProof.Rows L2 Ev Z
theorem add_int (i j : Int) : addD (.int i) (.int j) = some (.int (i + j)) := rfl
/-! ### the library's text -/
theorem rowsW (rows : List (Str × Str)) (ls : List (List Str)) (a b c d e f o p : Option D) (hr : ∀ q ∈ rows, nameB q.1 = true ∧ nameB q.2 = true) (hl : ls.length + rows.length ≤ 1000) : ∃ o' p', forGo (.tp [(.nm 7), (.nm 8)]) (sSeq (sApp 1 (fBin addD (fBin addD (evVar 7) (fC (.str " "))) (evVar 8))) sNx) (rows.map rwD) [a, some (lns ls), b, c, d, e, f, o, p] = some (.nx [a, some (lns (ls ++ rows.map rws)), b, c, d, e, f, o', p']) := by
  obtain ⟨δ', e, o', p', rfl⟩ := forGo_pre (enc := rwD) (t := .tp [(.nm 7), (.nm 8)]) (body := (sSeq (sApp 1 (fBin addD (fBin addD (evVar 7) (fC (.str " "))) (evVar 8))) sNx)) (fun dn δ => ∃ o p, δ = [a, some (lns (ls ++ dn.map rws)), b, c, d, e, f, o, p]) rows [a, some (lns ls), b, c, d, e, f, o, p] ⟨o, p, by simp⟩ (by
    rintro dn ⟨w, x⟩ rest δ he ⟨o, p, rfl⟩
    obtain ⟨n1, n2⟩ := hr (w, x) (by rw [he]; simp)
    have hlen := congrArg List.length he
    simp only [List.length_append, List.length_cons] at hlen
    have l1 : w.length ≤ 8 := (wd_of n1).hi
    have l2 : x.length ≤ 8 := (wd_of n2).hi
    refine ⟨_, _, rfl, ?_, some (.str w), some (.str x), rfl⟩
    rw [List.map_append, ← List.append_assoc]
    refine seq1 (app_ln rfl ?_ (by simp only [List.length_append, List.length_map]; omega))
    have e1 : addD (.str w) (.str sp) = some (.str (w ++ sp)) := add_str (by omega) (by decide +kernel)
    have l3 : sp.length = 1 := by decide +kernel
    have e2 : addD (.str (w ++ sp)) (.str x) = some (.str (w ++ sp ++ x)) := add_str (by rw [Str.length_append]; omega) (by omega)
    simp only [fBin, evVar, fC, bnd, okO, List.getElem?_cons_succ, List.getElem?_cons_zero, List.set_cons_succ, List.set_cons_zero, e1, e2, rws, ln2])
  exact ⟨o', p', e⟩
/-! ### names and rows -/
theorem forGo_ret {α : Type} {enc : α → D} {t : Tg} {body : So} (I : Ev.Env → Prop) (x : α) (q : List α) (d : D) : ∀ (p : List α) (δ : Ev.Env), I δ → (∀ y ∈ p, ∀ δ, I δ → ∃ δ1 δ2, bindT t (enc y) δ = some δ1 ∧ body δ1 = some (.nx δ2) ∧ I δ2) →
    (∀ δ, I δ → ∃ δ1 δ2, bindT t (enc x) δ = some δ1 ∧ body δ1 = some (.ret d δ2)) → ∃ δ', forGo t body ((p ++ x :: q).map enc) δ = some (.ret d δ')
  | [], δ, h, _, f => by
    obtain ⟨δ1, δ2, e1, e2⟩ := f δ h
    exact ⟨δ2, by simp only [List.nil_append, List.map_cons, forGo, e1, Option.bind_some, e2]⟩
  | y :: p, δ, h, st, f => by
    obtain ⟨δ1, δ2, e1, e2, h2⟩ := st y (List.mem_cons_self ..) δ h
    obtain ⟨δ', e3⟩ := forGo_ret I x q d p δ2 h2 (fun z hz => st z (List.mem_cons_of_mem _ hz)) f
    exact ⟨δ', by simp only [List.cons_append, List.map_cons, forGo, e1, Option.bind_some, e2]; exact e3⟩
end Q

set_option maxHeartbeats 4000000
/-! _law_leaf, _law_same, _law_lists. -/
namespace Q
open PySem PySem.Spec PyProof.Rows L2 Ev Z
theorem leaf_bl (i j : Bool) : φ_law_leaf [.bl i, .bl j] = some (.ok (.bl (i == j))) := by
  unfold φ_law_leaf g_law_leaf
  simp only [Ev.defF, Ev.startE, Ev.outR, Ev.sSeq, Ev.seqO, Ev.sSet, Ev.sIf, Ev.sFor, Ev.sRet, Ev.sRetOw, Ev.sNx, Ev.sApp, Ev.appO, Ev.lstAt, Ev.sFrz, Ev.unsO, Ev.bndS, Ev.bndSB, Ev.bndSL, Ev.bnd, Ev.bndB, Ev.bndL, Ev.bndI, Ev.okO, Ev.okB, Ev.okL, Ev.evVar, Ev.fC, Ev.fBin, Ev.fCmp, Ev.fNot, Ev.fAnd, Ev.fOr, Ev.fIf, Ev.fChain, Ev.fIx, Ev.fSl, Ev.evP, Ev.lNil, Ev.lCons, Ev.consL, Ev.fTup, Ev.fLst, Ev.fBi, Ev.fCall, Ev.fIsi, Ev.fM, Ev.iVal, Ev.iRng1, Ev.iRng2, Ev.iZip, Ev.addD, Ev.subD, Ev.mulD, Ev.divD, Ev.modD, Ev.op, Ev.cmpI, Ev.pLt, Ev.pLe, Ev.pGt, Ev.pGe, Ev.neD, Ev.isN, Ev.isnD, Ev.lenD, Ev.intD, Ev.absD, Ev.tupD, Ev.lstD, Ev.Tn.has, Ev.ixD, Ev.itemsD, Ev.rngF1, Ev.rngF2, List.getElem?_cons_zero, List.getElem?_cons_succ, List.set_cons_zero, List.set_cons_succ, List.map_cons, List.map_nil, List.length_cons, List.length_nil, List.replicate, List.append_nil, List.cons_append, List.nil_append, Bool.not_true, Bool.not_false, Bool.false_eq_true, if_true, if_false, reduceIte, ite_true, ite_false, Option.bind_some, Option.bind_none, Option.map_some, Option.map_none, Ev.fInT, Ev.fIxT, Ev.inT, Ev.ixT, Ev.insAt, Ev.fSelf, Ev.sFset, Ev.sFapp, Ev.sFaug, Ev.sFdput, Ev.sFpop, Ev.dicAt, Ev.keyD, Ev.sFnew, Ev.sMeth, Ev.doM, Ev.defI, Ev.outI, Ev.slot0, Ev.sBor, Ev.keepO, Ev.keepE, Ev.sPop, Ev.sExt, Ev.catD, Ev.fCat, Ev.isIns, Ev.isCl, Ev.fPm, Ev.fPm0, Ev.fProp, Ev.okOnly, Ev.fldC, Ev.fFldC, Ev.sRetFz, Ev.fCm, Ev.lStar, Ev.starL, Ev.fLstF, Ev.fLz, Ev.lzD, Ev.tyOk, Ev.tyNm, Ev.slD, Ev.bindT, Ev.bindTs, Ev.evP, Nat.reduceAdd, Nat.reduceLT, Nat.lt_irrefl, beq_self_eq_true, eq_bl]
theorem leaf_int (i j : Int) : φ_law_leaf [.int i, .int j] = some (.ok (.bl (decide (i = j)))) := by
  unfold φ_law_leaf g_law_leaf
  simp only [Ev.defF, Ev.startE, Ev.outR, Ev.sSeq, Ev.seqO, Ev.sSet, Ev.sIf, Ev.sFor, Ev.sRet, Ev.sRetOw, Ev.sNx, Ev.sApp, Ev.appO, Ev.lstAt, Ev.sFrz, Ev.unsO, Ev.bndS, Ev.bndSB, Ev.bndSL, Ev.bnd, Ev.bndB, Ev.bndL, Ev.bndI, Ev.okO, Ev.okB, Ev.okL, Ev.evVar, Ev.fC, Ev.fBin, Ev.fCmp, Ev.fNot, Ev.fAnd, Ev.fOr, Ev.fIf, Ev.fChain, Ev.fIx, Ev.fSl, Ev.evP, Ev.lNil, Ev.lCons, Ev.consL, Ev.fTup, Ev.fLst, Ev.fBi, Ev.fCall, Ev.fIsi, Ev.fM, Ev.iVal, Ev.iRng1, Ev.iRng2, Ev.iZip, Ev.addD, Ev.subD, Ev.mulD, Ev.divD, Ev.modD, Ev.op, Ev.cmpI, Ev.pLt, Ev.pLe, Ev.pGt, Ev.pGe, Ev.neD, Ev.isN, Ev.isnD, Ev.lenD, Ev.intD, Ev.absD, Ev.tupD, Ev.lstD, Ev.Tn.has, Ev.ixD, Ev.itemsD, Ev.rngF1, Ev.rngF2, List.getElem?_cons_zero, List.getElem?_cons_succ, List.set_cons_zero, List.set_cons_succ, List.map_cons, List.map_nil, List.length_cons, List.length_nil, List.replicate, List.append_nil, List.cons_append, List.nil_append, Bool.not_true, Bool.not_false, Bool.false_eq_true, if_true, if_false, reduceIte, ite_true, ite_false, Option.bind_some, Option.bind_none, Option.map_some, Option.map_none, Ev.fInT, Ev.fIxT, Ev.inT, Ev.ixT, Ev.insAt, Ev.fSelf, Ev.sFset, Ev.sFapp, Ev.sFaug, Ev.sFdput, Ev.sFpop, Ev.dicAt, Ev.keyD, Ev.sFnew, Ev.sMeth, Ev.doM, Ev.defI, Ev.outI, Ev.slot0, Ev.sBor, Ev.keepO, Ev.keepE, Ev.sPop, Ev.sExt, Ev.catD, Ev.fCat, Ev.isIns, Ev.isCl, Ev.fPm, Ev.fPm0, Ev.fProp, Ev.okOnly, Ev.fldC, Ev.fFldC, Ev.sRetFz, Ev.fCm, Ev.lStar, Ev.starL, Ev.fLstF, Ev.fLz, Ev.lzD, Ev.tyOk, Ev.tyNm, Ev.slD, Ev.bindT, Ev.bindTs, Ev.evP, Nat.reduceAdd, Nat.reduceLT, Nat.lt_irrefl, beq_self_eq_true, eq_int]
theorem leaf_str (i j : Str) : φ_law_leaf [.str i, .str j] = some (.ok (.bl (decide (i = j)))) := by
  unfold φ_law_leaf g_law_leaf
  simp only [Ev.defF, Ev.startE, Ev.outR, Ev.sSeq, Ev.seqO, Ev.sSet, Ev.sIf, Ev.sFor, Ev.sRet, Ev.sRetOw, Ev.sNx, Ev.sApp, Ev.appO, Ev.lstAt, Ev.sFrz, Ev.unsO, Ev.bndS, Ev.bndSB, Ev.bndSL, Ev.bnd, Ev.bndB, Ev.bndL, Ev.bndI, Ev.okO, Ev.okB, Ev.okL, Ev.evVar, Ev.fC, Ev.fBin, Ev.fCmp, Ev.fNot, Ev.fAnd, Ev.fOr, Ev.fIf, Ev.fChain, Ev.fIx, Ev.fSl, Ev.evP, Ev.lNil, Ev.lCons, Ev.consL, Ev.fTup, Ev.fLst, Ev.fBi, Ev.fCall, Ev.fIsi, Ev.fM, Ev.iVal, Ev.iRng1, Ev.iRng2, Ev.iZip, Ev.addD, Ev.subD, Ev.mulD, Ev.divD, Ev.modD, Ev.op, Ev.cmpI, Ev.pLt, Ev.pLe, Ev.pGt, Ev.pGe, Ev.neD, Ev.isN, Ev.isnD, Ev.lenD, Ev.intD, Ev.absD, Ev.tupD, Ev.lstD, Ev.Tn.has, Ev.ixD, Ev.itemsD, Ev.rngF1, Ev.rngF2, List.getElem?_cons_zero, List.getElem?_cons_succ, List.set_cons_zero, List.set_cons_succ, List.map_cons, List.map_nil, List.length_cons, List.length_nil, List.replicate, List.append_nil, List.cons_append, List.nil_append, Bool.not_true, Bool.not_false, Bool.false_eq_true, if_true, if_false, reduceIte, ite_true, ite_false, Option.bind_some, Option.bind_none, Option.map_some, Option.map_none, Ev.fInT, Ev.fIxT, Ev.inT, Ev.ixT, Ev.insAt, Ev.fSelf, Ev.sFset, Ev.sFapp, Ev.sFaug, Ev.sFdput, Ev.sFpop, Ev.dicAt, Ev.keyD, Ev.sFnew, Ev.sMeth, Ev.doM, Ev.defI, Ev.outI, Ev.slot0, Ev.sBor, Ev.keepO, Ev.keepE, Ev.sPop, Ev.sExt, Ev.catD, Ev.fCat, Ev.isIns, Ev.isCl, Ev.fPm, Ev.fPm0, Ev.fProp, Ev.okOnly, Ev.fldC, Ev.fFldC, Ev.sRetFz, Ev.fCm, Ev.lStar, Ev.starL, Ev.fLstF, Ev.fLz, Ev.lzD, Ev.tyOk, Ev.tyNm, Ev.slD, Ev.bindT, Ev.bindTs, Ev.evP, Nat.reduceAdd, Nat.reduceLT, Nat.lt_irrefl, beq_self_eq_true, eq_str]
theorem leaf_non : φ_law_leaf [.non, .non] = some (.ok (.bl true)) := rfl
mutual
def wt : D → Nat
  | .tup xs => 1 + wts xs
  | .lst xs => 1 + wts xs
  | _ => 1
def wts : List D → Nat
  | [] => 0
  | x :: xs => wt x + wts xs
end
mutual
def pl : Nat → D → Bool
  | 0, _ => false
  | _ + 1, .non => true
  | _ + 1, .bl _ => true
  | _ + 1, .int _ => true
  | _ + 1, .str _ => true
  | n + 1, .tup xs => pls n xs
  | n + 1, .lst xs => pls n xs
  | _ + 1, _ => false
def pls : Nat → List D → Bool
  | _, [] => true
  | n, x :: xs => pl n x && pls n xs
end
def kids : D → List D
  | .tup xs => xs
  | .lst xs => xs
  | _ => []
theorem wt_pos (x : D) : 1 ≤ wt x := by cases x <;> simp [wt] <;> omega
theorem wts_app : ∀ a b : List D, wts (a ++ b) = wts a + wts b
  | [], b => by simp [wts]
  | x :: a, b => by simp only [List.cons_append, wts, wts_app a b]; omega
theorem len_wts : ∀ l : List D, l.length ≤ wts l
  | [] => Nat.le_refl _
  | x :: l => by have := wt_pos x; have := len_wts l; simp only [List.length_cons, wts]; omega
theorem wt_kids (x : D) : wts (kids x) ≤ wt x := by cases x <;> simp [wt, kids, wts]
theorem wts_kids : ∀ l : List D, wts (l.flatMap kids) ≤ wts l
  | [] => Nat.le_refl _
  | x :: l => by have := wt_kids x; have := wts_kids l; simp only [List.flatMap_cons, wts_app, wts]; omega
theorem pls_iff {n : Nat} : ∀ {l : List D}, pls n l = true ↔ ∀ x ∈ l, pl n x = true
  | [] => by simp [pls]
  | x :: l => by simp only [pls, Bool.and_eq_true, pls_iff (l := l), List.mem_cons, forall_eq_or_imp]
theorem pl_kids {n : Nat} {x : D} (h : pl (n + 1) x = true) : pls n (kids x) = true := by
  cases x <;> simp only [pl, kids, pls] at h ⊢ <;> first | exact h | rfl | cases h
def pairD (x : D) : D := .tup [x, x]
theorem zip_same : ∀ l : List D, zipL l l = l.map pairD
  | [] => rfl
  | x :: l => by simp only [zipL, zip_same l, List.map_cons, pairD]
def sameL : So := (sSeq (sIf (fOr (fIsi .tuple (evVar 6)) (fIsi .list (evVar 6))) (sSeq (sIf (fAnd (fIsi .tuple (evVar 6)) (fNot (fIsi .tuple (evVar 5)))) (sSeq (sRet (fC (.bl false)))
  sNx) sNx)
  (sSeq (sIf (fAnd (fIsi .list (evVar 6)) (fNot (fIsi .list (evVar 5)))) (sSeq (sRet (fC (.bl false)))
  sNx) sNx)
  (sSeq (sIf (fCmp (neD) (fBi lenD (lCons (evVar 5) lNil)) (fBi lenD (lCons (evVar 6) lNil))) (sSeq (sRet (fC (.bl false)))
  sNx) sNx)
  (sSeq (sExt 4 (fLz (lCons (evVar 5) (lCons (evVar 6) lNil))))
  sNx)))) (sSeq (sIf (fNot (fCall φ_law_leaf (lCons (evVar 5) (lCons (evVar 6) lNil)))) (sSeq (sRet (fC (.bl false)))
  sNx) sNx)
  sNx))
  sNx)
theorem same_step (a b c d : Option D) (x : D) (inn : List D) (n : Nat) (hp : pl (n + 1) x = true) (hw : wts inn + wt x ≤ 1000000) : sameL [a, b, c, d, some (.lst (inn.map pairD)), some x, some x] = some (.nx [a, b, c, d, some (.lst ((inn ++ kids x).map pairD)), some x, some x]) := by
  have h1 := len_wts inn
  unfold sameL
  cases x with
  | non => simp only [Ev.defF, Ev.startE, Ev.outR, Ev.sSeq, Ev.seqO, Ev.sSet, Ev.sIf, Ev.sFor, Ev.sRet, Ev.sRetOw, Ev.sNx, Ev.sApp, Ev.appO, Ev.lstAt, Ev.sFrz, Ev.unsO, Ev.bndS, Ev.bndSB, Ev.bndSL, Ev.bnd, Ev.bndB, Ev.bndL, Ev.bndI, Ev.okO, Ev.okB, Ev.okL, Ev.evVar, Ev.fC, Ev.fBin, Ev.fCmp, Ev.fNot, Ev.fAnd, Ev.fOr, Ev.fIf, Ev.fChain, Ev.fIx, Ev.fSl, Ev.evP, Ev.lNil, Ev.lCons, Ev.consL, Ev.fTup, Ev.fLst, Ev.fBi, Ev.fCall, Ev.fIsi, Ev.fM, Ev.iVal, Ev.iRng1, Ev.iRng2, Ev.iZip, Ev.addD, Ev.subD, Ev.mulD, Ev.divD, Ev.modD, Ev.op, Ev.cmpI, Ev.pLt, Ev.pLe, Ev.pGt, Ev.pGe, Ev.neD, Ev.isN, Ev.isnD, Ev.lenD, Ev.intD, Ev.absD, Ev.tupD, Ev.lstD, Ev.Tn.has, Ev.ixD, Ev.itemsD, Ev.rngF1, Ev.rngF2, List.getElem?_cons_zero, List.getElem?_cons_succ, List.set_cons_zero, List.set_cons_succ, List.map_cons, List.map_nil, List.length_cons, List.length_nil, List.replicate, List.append_nil, List.cons_append, List.nil_append, Bool.not_true, Bool.not_false, Bool.false_eq_true, if_true, if_false, reduceIte, ite_true, ite_false, Option.bind_some, Option.bind_none, Option.map_some, Option.map_none, Ev.fInT, Ev.fIxT, Ev.inT, Ev.ixT, Ev.insAt, Ev.fSelf, Ev.sFset, Ev.sFapp, Ev.sFaug, Ev.sFdput, Ev.sFpop, Ev.dicAt, Ev.keyD, Ev.sFnew, Ev.sMeth, Ev.doM, Ev.defI, Ev.outI, Ev.slot0, Ev.sBor, Ev.keepO, Ev.keepE, Ev.sPop, Ev.sExt, Ev.catD, Ev.fCat, Ev.isIns, Ev.isCl, Ev.fPm, Ev.fPm0, Ev.fProp, Ev.okOnly, Ev.fldC, Ev.fFldC, Ev.sRetFz, Ev.fCm, Ev.lStar, Ev.starL, Ev.fLstF, Ev.fLz, Ev.lzD, Ev.tyOk, Ev.tyNm, Ev.slD, Ev.bindT, Ev.bindTs, Ev.evP, Nat.reduceAdd, Nat.reduceLT, Nat.lt_irrefl, beq_self_eq_true, leaf_non, kids]
  | bl i => simp only [Ev.defF, Ev.startE, Ev.outR, Ev.sSeq, Ev.seqO, Ev.sSet, Ev.sIf, Ev.sFor, Ev.sRet, Ev.sRetOw, Ev.sNx, Ev.sApp, Ev.appO, Ev.lstAt, Ev.sFrz, Ev.unsO, Ev.bndS, Ev.bndSB, Ev.bndSL, Ev.bnd, Ev.bndB, Ev.bndL, Ev.bndI, Ev.okO, Ev.okB, Ev.okL, Ev.evVar, Ev.fC, Ev.fBin, Ev.fCmp, Ev.fNot, Ev.fAnd, Ev.fOr, Ev.fIf, Ev.fChain, Ev.fIx, Ev.fSl, Ev.evP, Ev.lNil, Ev.lCons, Ev.consL, Ev.fTup, Ev.fLst, Ev.fBi, Ev.fCall, Ev.fIsi, Ev.fM, Ev.iVal, Ev.iRng1, Ev.iRng2, Ev.iZip, Ev.addD, Ev.subD, Ev.mulD, Ev.divD, Ev.modD, Ev.op, Ev.cmpI, Ev.pLt, Ev.pLe, Ev.pGt, Ev.pGe, Ev.neD, Ev.isN, Ev.isnD, Ev.lenD, Ev.intD, Ev.absD, Ev.tupD, Ev.lstD, Ev.Tn.has, Ev.ixD, Ev.itemsD, Ev.rngF1, Ev.rngF2, List.getElem?_cons_zero, List.getElem?_cons_succ, List.set_cons_zero, List.set_cons_succ, List.map_cons, List.map_nil, List.length_cons, List.length_nil, List.replicate, List.append_nil, List.cons_append, List.nil_append, Bool.not_true, Bool.not_false, Bool.false_eq_true, if_true, if_false, reduceIte, ite_true, ite_false, Option.bind_some, Option.bind_none, Option.map_some, Option.map_none, Ev.fInT, Ev.fIxT, Ev.inT, Ev.ixT, Ev.insAt, Ev.fSelf, Ev.sFset, Ev.sFapp, Ev.sFaug, Ev.sFdput, Ev.sFpop, Ev.dicAt, Ev.keyD, Ev.sFnew, Ev.sMeth, Ev.doM, Ev.defI, Ev.outI, Ev.slot0, Ev.sBor, Ev.keepO, Ev.keepE, Ev.sPop, Ev.sExt, Ev.catD, Ev.fCat, Ev.isIns, Ev.isCl, Ev.fPm, Ev.fPm0, Ev.fProp, Ev.okOnly, Ev.fldC, Ev.fFldC, Ev.sRetFz, Ev.fCm, Ev.lStar, Ev.starL, Ev.fLstF, Ev.fLz, Ev.lzD, Ev.tyOk, Ev.tyNm, Ev.slD, Ev.bindT, Ev.bindTs, Ev.evP, Nat.reduceAdd, Nat.reduceLT, Nat.lt_irrefl, beq_self_eq_true, leaf_bl, kids]
  | int i => simp only [Ev.defF, Ev.startE, Ev.outR, Ev.sSeq, Ev.seqO, Ev.sSet, Ev.sIf, Ev.sFor, Ev.sRet, Ev.sRetOw, Ev.sNx, Ev.sApp, Ev.appO, Ev.lstAt, Ev.sFrz, Ev.unsO, Ev.bndS, Ev.bndSB, Ev.bndSL, Ev.bnd, Ev.bndB, Ev.bndL, Ev.bndI, Ev.okO, Ev.okB, Ev.okL, Ev.evVar, Ev.fC, Ev.fBin, Ev.fCmp, Ev.fNot, Ev.fAnd, Ev.fOr, Ev.fIf, Ev.fChain, Ev.fIx, Ev.fSl, Ev.evP, Ev.lNil, Ev.lCons, Ev.consL, Ev.fTup, Ev.fLst, Ev.fBi, Ev.fCall, Ev.fIsi, Ev.fM, Ev.iVal, Ev.iRng1, Ev.iRng2, Ev.iZip, Ev.addD, Ev.subD, Ev.mulD, Ev.divD, Ev.modD, Ev.op, Ev.cmpI, Ev.pLt, Ev.pLe, Ev.pGt, Ev.pGe, Ev.neD, Ev.isN, Ev.isnD, Ev.lenD, Ev.intD, Ev.absD, Ev.tupD, Ev.lstD, Ev.Tn.has, Ev.ixD, Ev.itemsD, Ev.rngF1, Ev.rngF2, List.getElem?_cons_zero, List.getElem?_cons_succ, List.set_cons_zero, List.set_cons_succ, List.map_cons, List.map_nil, List.length_cons, List.length_nil, List.replicate, List.append_nil, List.cons_append, List.nil_append, Bool.not_true, Bool.not_false, Bool.false_eq_true, if_true, if_false, reduceIte, ite_true, ite_false, Option.bind_some, Option.bind_none, Option.map_some, Option.map_none, Ev.fInT, Ev.fIxT, Ev.inT, Ev.ixT, Ev.insAt, Ev.fSelf, Ev.sFset, Ev.sFapp, Ev.sFaug, Ev.sFdput, Ev.sFpop, Ev.dicAt, Ev.keyD, Ev.sFnew, Ev.sMeth, Ev.doM, Ev.defI, Ev.outI, Ev.slot0, Ev.sBor, Ev.keepO, Ev.keepE, Ev.sPop, Ev.sExt, Ev.catD, Ev.fCat, Ev.isIns, Ev.isCl, Ev.fPm, Ev.fPm0, Ev.fProp, Ev.okOnly, Ev.fldC, Ev.fFldC, Ev.sRetFz, Ev.fCm, Ev.lStar, Ev.starL, Ev.fLstF, Ev.fLz, Ev.lzD, Ev.tyOk, Ev.tyNm, Ev.slD, Ev.bindT, Ev.bindTs, Ev.evP, Nat.reduceAdd, Nat.reduceLT, Nat.lt_irrefl, beq_self_eq_true, leaf_int, kids, decide_true]
  | str i => simp only [Ev.defF, Ev.startE, Ev.outR, Ev.sSeq, Ev.seqO, Ev.sSet, Ev.sIf, Ev.sFor, Ev.sRet, Ev.sRetOw, Ev.sNx, Ev.sApp, Ev.appO, Ev.lstAt, Ev.sFrz, Ev.unsO, Ev.bndS, Ev.bndSB, Ev.bndSL, Ev.bnd, Ev.bndB, Ev.bndL, Ev.bndI, Ev.okO, Ev.okB, Ev.okL, Ev.evVar, Ev.fC, Ev.fBin, Ev.fCmp, Ev.fNot, Ev.fAnd, Ev.fOr, Ev.fIf, Ev.fChain, Ev.fIx, Ev.fSl, Ev.evP, Ev.lNil, Ev.lCons, Ev.consL, Ev.fTup, Ev.fLst, Ev.fBi, Ev.fCall, Ev.fIsi, Ev.fM, Ev.iVal, Ev.iRng1, Ev.iRng2, Ev.iZip, Ev.addD, Ev.subD, Ev.mulD, Ev.divD, Ev.modD, Ev.op, Ev.cmpI, Ev.pLt, Ev.pLe, Ev.pGt, Ev.pGe, Ev.neD, Ev.isN, Ev.isnD, Ev.lenD, Ev.intD, Ev.absD, Ev.tupD, Ev.lstD, Ev.Tn.has, Ev.ixD, Ev.itemsD, Ev.rngF1, Ev.rngF2, List.getElem?_cons_zero, List.getElem?_cons_succ, List.set_cons_zero, List.set_cons_succ, List.map_cons, List.map_nil, List.length_cons, List.length_nil, List.replicate, List.append_nil, List.cons_append, List.nil_append, Bool.not_true, Bool.not_false, Bool.false_eq_true, if_true, if_false, reduceIte, ite_true, ite_false, Option.bind_some, Option.bind_none, Option.map_some, Option.map_none, Ev.fInT, Ev.fIxT, Ev.inT, Ev.ixT, Ev.insAt, Ev.fSelf, Ev.sFset, Ev.sFapp, Ev.sFaug, Ev.sFdput, Ev.sFpop, Ev.dicAt, Ev.keyD, Ev.sFnew, Ev.sMeth, Ev.doM, Ev.defI, Ev.outI, Ev.slot0, Ev.sBor, Ev.keepO, Ev.keepE, Ev.sPop, Ev.sExt, Ev.catD, Ev.fCat, Ev.isIns, Ev.isCl, Ev.fPm, Ev.fPm0, Ev.fProp, Ev.okOnly, Ev.fldC, Ev.fFldC, Ev.sRetFz, Ev.fCm, Ev.lStar, Ev.starL, Ev.fLstF, Ev.fLz, Ev.lzD, Ev.tyOk, Ev.tyNm, Ev.slD, Ev.bindT, Ev.bindTs, Ev.evP, Nat.reduceAdd, Nat.reduceLT, Nat.lt_irrefl, beq_self_eq_true, leaf_str, kids, decide_true]
  | tup xs =>
    have h2 := len_wts xs
    simp only [wt] at hw
    simp only [Ev.defF, Ev.startE, Ev.outR, Ev.sSeq, Ev.seqO, Ev.sSet, Ev.sIf, Ev.sFor, Ev.sRet, Ev.sRetOw, Ev.sNx, Ev.sApp, Ev.appO, Ev.lstAt, Ev.sFrz, Ev.unsO, Ev.bndS, Ev.bndSB, Ev.bndSL, Ev.bnd, Ev.bndB, Ev.bndL, Ev.bndI, Ev.okO, Ev.okB, Ev.okL, Ev.evVar, Ev.fC, Ev.fBin, Ev.fCmp, Ev.fNot, Ev.fAnd, Ev.fOr, Ev.fIf, Ev.fChain, Ev.fIx, Ev.fSl, Ev.evP, Ev.lNil, Ev.lCons, Ev.consL, Ev.fTup, Ev.fLst, Ev.fBi, Ev.fCall, Ev.fIsi, Ev.fM, Ev.iVal, Ev.iRng1, Ev.iRng2, Ev.iZip, Ev.addD, Ev.subD, Ev.mulD, Ev.divD, Ev.modD, Ev.op, Ev.cmpI, Ev.pLt, Ev.pLe, Ev.pGt, Ev.pGe, Ev.neD, Ev.isN, Ev.isnD, Ev.lenD, Ev.intD, Ev.absD, Ev.tupD, Ev.lstD, Ev.Tn.has, Ev.ixD, Ev.itemsD, Ev.rngF1, Ev.rngF2, List.getElem?_cons_zero, List.getElem?_cons_succ, List.set_cons_zero, List.set_cons_succ, List.map_cons, List.map_nil, List.length_cons, List.length_nil, List.replicate, List.append_nil, List.cons_append, List.nil_append, Bool.not_true, Bool.not_false, Bool.false_eq_true, if_true, if_false, reduceIte, ite_true, ite_false, Option.bind_some, Option.bind_none, Option.map_some, Option.map_none, Ev.fInT, Ev.fIxT, Ev.inT, Ev.ixT, Ev.insAt, Ev.fSelf, Ev.sFset, Ev.sFapp, Ev.sFaug, Ev.sFdput, Ev.sFpop, Ev.dicAt, Ev.keyD, Ev.sFnew, Ev.sMeth, Ev.doM, Ev.defI, Ev.outI, Ev.slot0, Ev.sBor, Ev.keepO, Ev.keepE, Ev.sPop, Ev.sExt, Ev.catD, Ev.fCat, Ev.isIns, Ev.isCl, Ev.fPm, Ev.fPm0, Ev.fProp, Ev.okOnly, Ev.fldC, Ev.fFldC, Ev.sRetFz, Ev.fCm, Ev.lStar, Ev.starL, Ev.fLstF, Ev.fLz, Ev.lzD, Ev.tyOk, Ev.tyNm, Ev.slD, Ev.bindT, Ev.bindTs, Ev.evP, Nat.reduceAdd, Nat.reduceLT, Nat.lt_irrefl, beq_self_eq_true, eq_int, decide_true, zipD, zip_same, List.length_map, le_sL (show inn.length + xs.length ≤ 1000000 by omega), kids, List.map_append]
  | lst xs =>
    have h2 := len_wts xs
    simp only [wt] at hw
    simp only [Ev.defF, Ev.startE, Ev.outR, Ev.sSeq, Ev.seqO, Ev.sSet, Ev.sIf, Ev.sFor, Ev.sRet, Ev.sRetOw, Ev.sNx, Ev.sApp, Ev.appO, Ev.lstAt, Ev.sFrz, Ev.unsO, Ev.bndS, Ev.bndSB, Ev.bndSL, Ev.bnd, Ev.bndB, Ev.bndL, Ev.bndI, Ev.okO, Ev.okB, Ev.okL, Ev.evVar, Ev.fC, Ev.fBin, Ev.fCmp, Ev.fNot, Ev.fAnd, Ev.fOr, Ev.fIf, Ev.fChain, Ev.fIx, Ev.fSl, Ev.evP, Ev.lNil, Ev.lCons, Ev.consL, Ev.fTup, Ev.fLst, Ev.fBi, Ev.fCall, Ev.fIsi, Ev.fM, Ev.iVal, Ev.iRng1, Ev.iRng2, Ev.iZip, Ev.addD, Ev.subD, Ev.mulD, Ev.divD, Ev.modD, Ev.op, Ev.cmpI, Ev.pLt, Ev.pLe, Ev.pGt, Ev.pGe, Ev.neD, Ev.isN, Ev.isnD, Ev.lenD, Ev.intD, Ev.absD, Ev.tupD, Ev.lstD, Ev.Tn.has, Ev.ixD, Ev.itemsD, Ev.rngF1, Ev.rngF2, List.getElem?_cons_zero, List.getElem?_cons_succ, List.set_cons_zero, List.set_cons_succ, List.map_cons, List.map_nil, List.length_cons, List.length_nil, List.replicate, List.append_nil, List.cons_append, List.nil_append, Bool.not_true, Bool.not_false, Bool.false_eq_true, if_true, if_false, reduceIte, ite_true, ite_false, Option.bind_some, Option.bind_none, Option.map_some, Option.map_none, Ev.fInT, Ev.fIxT, Ev.inT, Ev.ixT, Ev.insAt, Ev.fSelf, Ev.sFset, Ev.sFapp, Ev.sFaug, Ev.sFdput, Ev.sFpop, Ev.dicAt, Ev.keyD, Ev.sFnew, Ev.sMeth, Ev.doM, Ev.defI, Ev.outI, Ev.slot0, Ev.sBor, Ev.keepO, Ev.keepE, Ev.sPop, Ev.sExt, Ev.catD, Ev.fCat, Ev.isIns, Ev.isCl, Ev.fPm, Ev.fPm0, Ev.fProp, Ev.okOnly, Ev.fldC, Ev.fFldC, Ev.sRetFz, Ev.fCm, Ev.lStar, Ev.starL, Ev.fLstF, Ev.fLz, Ev.lzD, Ev.tyOk, Ev.tyNm, Ev.slD, Ev.bindT, Ev.bindTs, Ev.evP, Nat.reduceAdd, Nat.reduceLT, Nat.lt_irrefl, beq_self_eq_true, eq_int, decide_true, zipD, zip_same, List.length_map, le_sL (show inn.length + xs.length ≤ 1000000 by omega), kids, List.map_append]
  | dic _ _ => simp [pl] at hp
  | ins _ _ => simp [pl] at hp
  | lck _ => simp [pl] at hp
  | cl _ => simp [pl] at hp
  | xv => simp [pl] at hp
theorem same_loop (a b d : Option D) (n : Nat) (ps : List D) (o5 o6 : Option D) (hp : ∀ x ∈ ps, pl (n + 1) x = true) (hw : wts ps ≤ 1000000) : ∃ o5' o6', forGo (.tp [(.nm 5), (.nm 6)]) sameL (ps.map pairD) [a, b, some (.lst (ps.map pairD)), d, some (.lst []), o5, o6] = some (.nx [a, b, some (.lst (ps.map pairD)), d, some (.lst ((ps.flatMap kids).map pairD)), o5', o6']) := by
  obtain ⟨δ', e, o5', o6', rfl⟩ := forGo_pre (enc := pairD) (t := .tp [(.nm 5), (.nm 6)]) (body := sameL) (fun dn δ => ∃ o5 o6, δ = [a, b, some (.lst (ps.map pairD)), d, some (.lst ((dn.flatMap kids).map pairD)), o5, o6]) ps [a, b, some (.lst (ps.map pairD)), d, some (.lst []), o5, o6] ⟨o5, o6, rfl⟩ (by
    rintro dn x r δ he ⟨o5, o6, rfl⟩
    refine ⟨_, _, rfl, same_step a b _ d x (dn.flatMap kids) n (hp x (by rw [he]; simp)) ?_, some x, some x, by simp⟩
    have h1 := wts_kids dn
    rw [he, wts_app] at hw
    simp only [wts] at hw
    omega)
  exact ⟨o5', o6', e⟩
theorem same_round (a b o4 o5 o6 : Option D) (k : Option D) (n : Nat) (ps : List D) (hp : pls n ps = true) (hw : wts ps ≤ 1000000) : ∃ o5' o6', ∀ R : So,
    (sSeq (sSet 4 (fLst lNil))
  (sSeq (sFor (.tp [(.nm 5), (.nm 6)]) (iVal (evVar 2)) sameL)
  (sSeq (sSet 2 (fBi lstD (lCons (evVar 4) lNil)))
  sNx))) [a, b, some (.lst (ps.map pairD)), k, o4, o5, o6] = some (.nx [a, b, some (.lst ((ps.flatMap kids).map pairD)), k, some (.lst ((ps.flatMap kids).map pairD)), o5', o6']) := by
  have hn : ∃ o5' o6', forGo (.tp [(.nm 5), (.nm 6)]) sameL (ps.map pairD) [a, b, some (.lst (ps.map pairD)), k, some (.lst []), o5, o6] = some (.nx [a, b, some (.lst (ps.map pairD)), k, some (.lst ((ps.flatMap kids).map pairD)), o5', o6']) := by
    cases n with
    | zero =>
      cases ps with
      | nil => exact ⟨o5, o6, rfl⟩
      | cons x r => simp [pls, pl] at hp
    | succ n => exact same_loop a b k n ps o5 o6 (pls_iff.mp hp) hw
  obtain ⟨o5', o6', e⟩ := hn
  refine ⟨o5', o6', fun _ => ?_⟩
  rw [seq_nx (δ' := [a, b, some (.lst (ps.map pairD)), k, some (.lst []), o5, o6]) (by simp only [Ev.defF, Ev.startE, Ev.outR, Ev.sSeq, Ev.seqO, Ev.sSet, Ev.sIf, Ev.sFor, Ev.sRet, Ev.sRetOw, Ev.sNx, Ev.sApp, Ev.appO, Ev.lstAt, Ev.sFrz, Ev.unsO, Ev.bndS, Ev.bndSB, Ev.bndSL, Ev.bnd, Ev.bndB, Ev.bndL, Ev.bndI, Ev.okO, Ev.okB, Ev.okL, Ev.evVar, Ev.fC, Ev.fBin, Ev.fCmp, Ev.fNot, Ev.fAnd, Ev.fOr, Ev.fIf, Ev.fChain, Ev.fIx, Ev.fSl, Ev.evP, Ev.lNil, Ev.lCons, Ev.consL, Ev.fTup, Ev.fLst, Ev.fBi, Ev.fCall, Ev.fIsi, Ev.fM, Ev.iVal, Ev.iRng1, Ev.iRng2, Ev.iZip, Ev.addD, Ev.subD, Ev.mulD, Ev.divD, Ev.modD, Ev.op, Ev.cmpI, Ev.pLt, Ev.pLe, Ev.pGt, Ev.pGe, Ev.neD, Ev.isN, Ev.isnD, Ev.lenD, Ev.intD, Ev.absD, Ev.tupD, Ev.lstD, Ev.Tn.has, Ev.ixD, Ev.itemsD, Ev.rngF1, Ev.rngF2, List.getElem?_cons_zero, List.getElem?_cons_succ, List.set_cons_zero, List.set_cons_succ, List.map_cons, List.map_nil, List.length_cons, List.length_nil, List.replicate, List.append_nil, List.cons_append, List.nil_append, Bool.not_true, Bool.not_false, Bool.false_eq_true, if_true, if_false, reduceIte, ite_true, ite_false, Option.bind_some, Option.bind_none, Option.map_some, Option.map_none, Ev.fInT, Ev.fIxT, Ev.inT, Ev.ixT, Ev.insAt, Ev.fSelf, Ev.sFset, Ev.sFapp, Ev.sFaug, Ev.sFdput, Ev.sFpop, Ev.dicAt, Ev.keyD, Ev.sFnew, Ev.sMeth, Ev.doM, Ev.defI, Ev.outI, Ev.slot0, Ev.sBor, Ev.keepO, Ev.keepE, Ev.sPop, Ev.sExt, Ev.catD, Ev.fCat, Ev.isIns, Ev.isCl, Ev.fPm, Ev.fPm0, Ev.fProp, Ev.okOnly, Ev.fldC, Ev.fFldC, Ev.sRetFz, Ev.fCm, Ev.lStar, Ev.starL, Ev.fLstF, Ev.fLz, Ev.lzD, Ev.tyOk, Ev.tyNm, Ev.slD, Ev.bindT, Ev.bindTs, Ev.evP, Nat.reduceAdd, Nat.reduceLT, Nat.lt_irrefl, beq_self_eq_true])]
  rw [seq_nx (δ' := [a, b, some (.lst (ps.map pairD)), k, some (.lst ((ps.flatMap kids).map pairD)), o5', o6']) (by
    unfold sFor
    simp only [iVal, evVar, List.getElem?_cons_succ, List.getElem?_cons_zero, bndI, itemsD, okL, bndSL]
    exact e)]
  simp only [Ev.defF, Ev.startE, Ev.outR, Ev.sSeq, Ev.seqO, Ev.sSet, Ev.sIf, Ev.sFor, Ev.sRet, Ev.sRetOw, Ev.sNx, Ev.sApp, Ev.appO, Ev.lstAt, Ev.sFrz, Ev.unsO, Ev.bndS, Ev.bndSB, Ev.bndSL, Ev.bnd, Ev.bndB, Ev.bndL, Ev.bndI, Ev.okO, Ev.okB, Ev.okL, Ev.evVar, Ev.fC, Ev.fBin, Ev.fCmp, Ev.fNot, Ev.fAnd, Ev.fOr, Ev.fIf, Ev.fChain, Ev.fIx, Ev.fSl, Ev.evP, Ev.lNil, Ev.lCons, Ev.consL, Ev.fTup, Ev.fLst, Ev.fBi, Ev.fCall, Ev.fIsi, Ev.fM, Ev.iVal, Ev.iRng1, Ev.iRng2, Ev.iZip, Ev.addD, Ev.subD, Ev.mulD, Ev.divD, Ev.modD, Ev.op, Ev.cmpI, Ev.pLt, Ev.pLe, Ev.pGt, Ev.pGe, Ev.neD, Ev.isN, Ev.isnD, Ev.lenD, Ev.intD, Ev.absD, Ev.tupD, Ev.lstD, Ev.Tn.has, Ev.ixD, Ev.itemsD, Ev.rngF1, Ev.rngF2, List.getElem?_cons_zero, List.getElem?_cons_succ, List.set_cons_zero, List.set_cons_succ, List.map_cons, List.map_nil, List.length_cons, List.length_nil, List.replicate, List.append_nil, List.cons_append, List.nil_append, Bool.not_true, Bool.not_false, Bool.false_eq_true, if_true, if_false, reduceIte, ite_true, ite_false, Option.bind_some, Option.bind_none, Option.map_some, Option.map_none, Ev.fInT, Ev.fIxT, Ev.inT, Ev.ixT, Ev.insAt, Ev.fSelf, Ev.sFset, Ev.sFapp, Ev.sFaug, Ev.sFdput, Ev.sFpop, Ev.dicAt, Ev.keyD, Ev.sFnew, Ev.sMeth, Ev.doM, Ev.defI, Ev.outI, Ev.slot0, Ev.sBor, Ev.keepO, Ev.keepE, Ev.sPop, Ev.sExt, Ev.catD, Ev.fCat, Ev.isIns, Ev.isCl, Ev.fPm, Ev.fPm0, Ev.fProp, Ev.okOnly, Ev.fldC, Ev.fFldC, Ev.sRetFz, Ev.fCm, Ev.lStar, Ev.starL, Ev.fLstF, Ev.fLz, Ev.lzD, Ev.tyOk, Ev.tyNm, Ev.slD, Ev.bindT, Ev.bindTs, Ev.evP, Nat.reduceAdd, Nat.reduceLT, Nat.lt_irrefl, beq_self_eq_true]
theorem pls_kids {n : Nat} : ∀ {ps : List D}, pls (n + 1) ps = true → pls n (ps.flatMap kids) = true
  | [], _ => rfl
  | x :: ps, h => by
    simp only [pls, Bool.and_eq_true] at h
    rw [List.flatMap_cons, pls_iff]
    intro y hy
    rcases List.mem_append.mp hy with hy | hy
    · exact pls_iff.mp (pl_kids h.1) y hy
    · exact pls_iff.mp (pls_kids h.2) y hy
theorem same_eq (x : D) (hp : pl 7 x = true) (hw : wt x ≤ 1000000) : φ_law_same [x, x] = some (.ok (.bl true)) := by
  unfold φ_law_same defF
  rw [show startE 7 [x, x] = [some x, some x, none, none, none, none, none] from rfl]
  unfold g_law_same
  rw [seq_nx (δ' := [some x, some x, some (.lst ([x].map pairD)), none, none, none, none]) (by simp only [Ev.defF, Ev.startE, Ev.outR, Ev.sSeq, Ev.seqO, Ev.sSet, Ev.sIf, Ev.sFor, Ev.sRet, Ev.sRetOw, Ev.sNx, Ev.sApp, Ev.appO, Ev.lstAt, Ev.sFrz, Ev.unsO, Ev.bndS, Ev.bndSB, Ev.bndSL, Ev.bnd, Ev.bndB, Ev.bndL, Ev.bndI, Ev.okO, Ev.okB, Ev.okL, Ev.evVar, Ev.fC, Ev.fBin, Ev.fCmp, Ev.fNot, Ev.fAnd, Ev.fOr, Ev.fIf, Ev.fChain, Ev.fIx, Ev.fSl, Ev.evP, Ev.lNil, Ev.lCons, Ev.consL, Ev.fTup, Ev.fLst, Ev.fBi, Ev.fCall, Ev.fIsi, Ev.fM, Ev.iVal, Ev.iRng1, Ev.iRng2, Ev.iZip, Ev.addD, Ev.subD, Ev.mulD, Ev.divD, Ev.modD, Ev.op, Ev.cmpI, Ev.pLt, Ev.pLe, Ev.pGt, Ev.pGe, Ev.neD, Ev.isN, Ev.isnD, Ev.lenD, Ev.intD, Ev.absD, Ev.tupD, Ev.lstD, Ev.Tn.has, Ev.ixD, Ev.itemsD, Ev.rngF1, Ev.rngF2, List.getElem?_cons_zero, List.getElem?_cons_succ, List.set_cons_zero, List.set_cons_succ, List.map_cons, List.map_nil, List.length_cons, List.length_nil, List.replicate, List.append_nil, List.cons_append, List.nil_append, Bool.not_true, Bool.not_false, Bool.false_eq_true, if_true, if_false, reduceIte, ite_true, ite_false, Option.bind_some, Option.bind_none, Option.map_some, Option.map_none, Ev.fInT, Ev.fIxT, Ev.inT, Ev.ixT, Ev.insAt, Ev.fSelf, Ev.sFset, Ev.sFapp, Ev.sFaug, Ev.sFdput, Ev.sFpop, Ev.dicAt, Ev.keyD, Ev.sFnew, Ev.sMeth, Ev.doM, Ev.defI, Ev.outI, Ev.slot0, Ev.sBor, Ev.keepO, Ev.keepE, Ev.sPop, Ev.sExt, Ev.catD, Ev.fCat, Ev.isIns, Ev.isCl, Ev.fPm, Ev.fPm0, Ev.fProp, Ev.okOnly, Ev.fldC, Ev.fFldC, Ev.sRetFz, Ev.fCm, Ev.lStar, Ev.starL, Ev.fLstF, Ev.fLz, Ev.lzD, Ev.tyOk, Ev.tyNm, Ev.slD, Ev.bindT, Ev.bindTs, Ev.evP, Nat.reduceAdd, Nat.reduceLT, Nat.lt_irrefl, beq_self_eq_true, pairD])]
  obtain ⟨δ', e, ps, o3, o4, o5, o6, h1, h2, rfl⟩ := forGo_ind (t := .nm 3) (body := (sSeq (sSet 4 (fLst lNil))
  (sSeq (sFor (.tp [(.nm 5), (.nm 6)]) (iVal (evVar 2)) sameL)
  (sSeq (sSet 2 (fBi lstD (lCons (evVar 4) lNil)))
  sNx)))) (fun i δ => ∃ ps o3 o4 o5 o6, pls (7 - i) ps = true ∧ wts ps ≤ 1000000 ∧ δ = [some x, some x, some (.lst (ps.map pairD)), o3, o4, o5, o6]) (rngD 0 ((7 : Nat) : Int)) 0 [some x, some x, some (.lst ([x].map pairD)), none, none, none, none] ⟨[x], none, none, none, none, by simp [pls, hp], by simp [wts, hw], rfl⟩ (by
    rintro i d δ hd ⟨ps, o3, o4, o5, o6, h1, h2, rfl⟩
    obtain ⟨rfl, hi⟩ := rngD_get hd
    rw [Nat.zero_add] at *
    obtain ⟨o5', o6', e⟩ := same_round (some x) (some x) o4 o5 o6 (some (.int i)) _ ps h1 h2
    refine ⟨_, _, rfl, e sNx, ps.flatMap kids, _, _, _, _, ?_, Nat.le_trans (wts_kids ps) h2, rfl⟩
    rw [show 7 - i = (7 - (i + 1)) + 1 by omega] at h1
    exact pls_kids h1)
  rw [rngD_len] at h1
  have hps : ps = [] := by
    cases ps with
    | nil => rfl
    | cons y r => simp [pls, pl] at h1
  subst hps
  rw [seq_nx (δ' := [some x, some x, some (.lst []), o3, o4, o5, o6]) (by
    unfold sFor
    have : Ev.iRng1 (fC (.int 7)) [some x, some x, some (.lst ([x].map pairD)), none, none, none, none] = some (.ok (rngD 0 ((7 : Nat) : Int))) := by
      simp only [Ev.iRng1, fC, bndI, rngF1]
      rw [show (7 : Int) = ((7 : Nat) : Int) from rfl, rngOk0 (by omega)]
      rfl
    rw [this]
    exact e)]
  simp only [Ev.defF, Ev.startE, Ev.outR, Ev.sSeq, Ev.seqO, Ev.sSet, Ev.sIf, Ev.sFor, Ev.sRet, Ev.sRetOw, Ev.sNx, Ev.sApp, Ev.appO, Ev.lstAt, Ev.sFrz, Ev.unsO, Ev.bndS, Ev.bndSB, Ev.bndSL, Ev.bnd, Ev.bndB, Ev.bndL, Ev.bndI, Ev.okO, Ev.okB, Ev.okL, Ev.evVar, Ev.fC, Ev.fBin, Ev.fCmp, Ev.fNot, Ev.fAnd, Ev.fOr, Ev.fIf, Ev.fChain, Ev.fIx, Ev.fSl, Ev.evP, Ev.lNil, Ev.lCons, Ev.consL, Ev.fTup, Ev.fLst, Ev.fBi, Ev.fCall, Ev.fIsi, Ev.fM, Ev.iVal, Ev.iRng1, Ev.iRng2, Ev.iZip, Ev.addD, Ev.subD, Ev.mulD, Ev.divD, Ev.modD, Ev.op, Ev.cmpI, Ev.pLt, Ev.pLe, Ev.pGt, Ev.pGe, Ev.neD, Ev.isN, Ev.isnD, Ev.lenD, Ev.intD, Ev.absD, Ev.tupD, Ev.lstD, Ev.Tn.has, Ev.ixD, Ev.itemsD, Ev.rngF1, Ev.rngF2, List.getElem?_cons_zero, List.getElem?_cons_succ, List.set_cons_zero, List.set_cons_succ, List.map_cons, List.map_nil, List.length_cons, List.length_nil, List.replicate, List.append_nil, List.cons_append, List.nil_append, Bool.not_true, Bool.not_false, Bool.false_eq_true, if_true, if_false, reduceIte, ite_true, ite_false, Option.bind_some, Option.bind_none, Option.map_some, Option.map_none, Ev.fInT, Ev.fIxT, Ev.inT, Ev.ixT, Ev.insAt, Ev.fSelf, Ev.sFset, Ev.sFapp, Ev.sFaug, Ev.sFdput, Ev.sFpop, Ev.dicAt, Ev.keyD, Ev.sFnew, Ev.sMeth, Ev.doM, Ev.defI, Ev.outI, Ev.slot0, Ev.sBor, Ev.keepO, Ev.keepE, Ev.sPop, Ev.sExt, Ev.catD, Ev.fCat, Ev.isIns, Ev.isCl, Ev.fPm, Ev.fPm0, Ev.fProp, Ev.okOnly, Ev.fldC, Ev.fFldC, Ev.sRetFz, Ev.fCm, Ev.lStar, Ev.starL, Ev.fLstF, Ev.fLz, Ev.lzD, Ev.tyOk, Ev.tyNm, Ev.slD, Ev.bindT, Ev.bindTs, Ev.evP, Nat.reduceAdd, Nat.reduceLT, Nat.lt_irrefl, beq_self_eq_true, eq_int]
  rfl
/-! ### _law_lists -/
theorem wts_le (B : Nat) : ∀ l : List D, (∀ x ∈ l, wt x ≤ B) → wts l ≤ l.length * B
  | [], _ => by simp [wts]
  | x :: l, h => by
    have h1 := wts_le B l fun y hy => h y (List.mem_cons_of_mem _ hy)
    have h2 := h x (List.mem_cons_self ..)
    simp only [wts, List.length_cons, Nat.add_mul]
    omega
theorem wts_str : ∀ l : List Str, wts (l.map D.str) = l.length
  | [] => rfl
  | x :: l => by simp only [List.map_cons, wts, wts_str l, wt, List.length_cons]; omega
theorem pls_str (n : Nat) (l : List Str) : pls (n + 1) (l.map D.str) = true := pls_iff.mpr fun x hx => by
  obtain ⟨y, _, rfl⟩ := List.mem_map.mp hx
  rfl
theorem wts_row : ∀ l : List (Str × Str), wts (l.map rwD) = 3 * l.length
  | [] => rfl
  | x :: l => by simp only [List.map_cons, wts, wts_row l, List.length_cons, rwD, wt]; omega
theorem pls_row (n : Nat) (l : List (Str × Str)) : pls (n + 2) (l.map rwD) = true := pls_iff.mpr fun x hx => by
  obtain ⟨y, _, rfl⟩ := List.mem_map.mp hx
  rfl
/-- what both lists hold -/
def toldH (h : Hk) : List D := [.tup (h.cbs.map D.str), .bl h.late]
def toldR (r : Rt) : D := .tup (r.rows.map rwD)
def told0 (L : Lb) : List D := [.tup (L.locks.map D.str), .tup ((L.hooks.map Hk.n).map D.str), .tup ((L.routs.map Rt.n).map D.str), .tup (L.ents.map D.str)]
theorem cat_eq {xs ys : List D} (h : xs.length + ys.length ≤ 1000000) : catD (.lst xs) (.lst ys) = some (.lst (xs ++ ys)) := by
  show (if _ then _ else _) = _
  rw [if_pos (le_sL h)]
end Q

set_option maxHeartbeats 4000000
namespace Q
open PySem PySem.Spec PyProof.Rows L2 Ev Z
theorem atI_in {α : Type} {xs : List α} {i : Int} (h0 : 0 ≤ i) (h1 : i < xs.length) : ∃ x, atI xs i = some x ∧ x ∈ xs := by
  obtain ⟨k, rfl⟩ := Int.eq_ofNat_of_zero_le h0
  rw [atI_lit]
  have hk : k < xs.length := by omega
  exact ⟨xs[k], List.getElem?_eq_getElem hk, List.getElem_mem hk⟩
theorem pow18 : powD (.int 10) (.int 18) = some (.int 1000000000000000000) := by kernel_rfl
theorem smallI_of {i : Int} (h0 : 0 ≤ i) (h1 : i < 18446744073709551616) : smallI i = true := by
  unfold smallI
  exact decide_eq_true (by omega)
/-! ### numbers -/
abbrev nd (l : List Int) : D := .lst (l.map D.int)
theorem nd_app (l : List Int) (x : Int) : nd (l ++ [x]) = .lst (l.map D.int ++ [.int x]) := by simp only [nd, List.map_append, List.map_cons, List.map_nil]
theorem nums_first (ns : List Int) (at_ : Nat) (many : Nat) (ha : at_ ≤ 1000) : ∃ (cell : Int) (skip : Nat), skip ≤ 60000 ∧
    (sIf (fCmp (op pLt) (evVar 1) (fBi lenD (lCons (evVar 0) lNil))) (sSeq (sSet 3 (fIx (evVar 0) (evVar 1))) sNx)
      (sSeq (sIf (fAnd (fCmp (op pGt) (fBi lenD (lCons (evVar 0) lNil)) (fC (.int 0))) (fCmp (op pLt) (fBi absD (lCons (fIx (evVar 0) (fBin modD (fBi intD (lCons (evVar 1) lNil)) (fBi lenD (lCons (evVar 0) lNil)))) lNil)) (fBin powD (fC (.int 10)) (fC (.int 18)))))
        (sSeq (sSet 3 (fIx (evVar 0) (fBin modD (fBi intD (lCons (evVar 1) lNil)) (fBi lenD (lCons (evVar 0) lNil))))) (sSeq (sSet 4 (fBin mulD (fC (.int 60)) (evVar 1))) sNx)) sNx) sNx))
      [some (.lck ns), some (.int at_), some (.int many), some (.int 0), some (.int 0), none, none, none, none] = some (.nx [some (.lck ns), some (.int at_), some (.int many), some (.int cell), some (.int skip), none, none, none, none]) := by
  by_cases h1 : at_ < ns.length
  · refine ⟨ns[at_], 0, by omega, ?_⟩
    have e : atI ns (at_ : Int) = some ns[at_] := by rw [atI_lit]; exact List.getElem?_eq_getElem h1
    have h2 : decide ((at_ : Int) < (ns.length : Int)) = true := decide_eq_true (by omega)
    simp only [Ev.defF, Ev.startE, Ev.outR, Ev.sSeq, Ev.seqO, Ev.sSet, Ev.sIf, Ev.sFor, Ev.sRet, Ev.sRetOw, Ev.sNx, Ev.sApp, Ev.appO, Ev.lstAt, Ev.sFrz, Ev.unsO, Ev.bndS, Ev.bndSB, Ev.bndSL, Ev.bnd, Ev.bndB, Ev.bndL, Ev.bndI, Ev.okO, Ev.okB, Ev.okL, Ev.evVar, Ev.fC, Ev.fBin, Ev.fCmp, Ev.fNot, Ev.fAnd, Ev.fOr, Ev.fIf, Ev.fChain, Ev.fIx, Ev.fSl, Ev.evP, Ev.lNil, Ev.lCons, Ev.consL, Ev.fTup, Ev.fLst, Ev.fBi, Ev.fCall, Ev.fIsi, Ev.fM, Ev.iVal, Ev.iRng1, Ev.iRng2, Ev.iZip, Ev.addD, Ev.subD, Ev.mulD, Ev.divD, Ev.modD, Ev.op, Ev.cmpI, Ev.pLt, Ev.pLe, Ev.pGt, Ev.pGe, Ev.neD, Ev.isN, Ev.isnD, Ev.lenD, Ev.intD, Ev.absD, Ev.tupD, Ev.lstD, Ev.Tn.has, Ev.ixD, Ev.itemsD, Ev.rngF1, Ev.rngF2, List.getElem?_cons_zero, List.getElem?_cons_succ, List.set_cons_zero, List.set_cons_succ, List.map_cons, List.map_nil, List.length_cons, List.length_nil, List.replicate, List.append_nil, List.cons_append, List.nil_append, Bool.not_true, Bool.not_false, Bool.false_eq_true, if_true, if_false, reduceIte, ite_true, ite_false, Option.bind_some, Option.bind_none, Option.map_some, Option.map_none, Ev.fInT, Ev.fIxT, Ev.inT, Ev.ixT, Ev.insAt, Ev.fSelf, Ev.sFset, Ev.sFapp, Ev.sFaug, Ev.sFdput, Ev.sFpop, Ev.dicAt, Ev.keyD, Ev.sFnew, Ev.sMeth, Ev.doM, Ev.defI, Ev.outI, Ev.slot0, Ev.sBor, Ev.keepO, Ev.keepE, Ev.sPop, Ev.sExt, Ev.catD, Ev.fCat, Ev.isIns, Ev.isCl, Ev.fPm, Ev.fPm0, Ev.fProp, Ev.okOnly, Ev.fldC, Ev.fFldC, Ev.sRetFz, Ev.fCm, Ev.lStar, Ev.starL, Ev.fLstF, Ev.fLz, Ev.lzD, Ev.tyOk, Ev.tyNm, Ev.slD, Ev.bindT, Ev.bindTs, Ev.evP, Nat.reduceAdd, Nat.reduceLT, Nat.lt_irrefl, beq_self_eq_true, h2, e]
    rfl
  · have h2 : decide ((at_ : Int) < (ns.length : Int)) = false := decide_eq_false (by omega)
    by_cases h3 : 0 < ns.length
    · have h4 : decide (0 < (ns.length : Int)) = true := decide_eq_true (by omega)
      have h5 : 0 ≤ (at_ : Int) % (ns.length : Int) := Int.emod_nonneg _ (by omega)
      have h6 : (at_ : Int) % (ns.length : Int) < (ns.length : Int) := Int.emod_lt_of_pos _ (by omega)
      obtain ⟨x, e, _⟩ := atI_in (xs := ns) h5 h6
      by_cases h7 : (if x < 0 then -x else x) < 1000000000000000000
      · refine ⟨x, 60 * at_, by omega, ?_⟩
        have h8 : smallI 60 = true := by decide +kernel
        simp only [Ev.defF, Ev.startE, Ev.outR, Ev.sSeq, Ev.seqO, Ev.sSet, Ev.sIf, Ev.sFor, Ev.sRet, Ev.sRetOw, Ev.sNx, Ev.sApp, Ev.appO, Ev.lstAt, Ev.sFrz, Ev.unsO, Ev.bndS, Ev.bndSB, Ev.bndSL, Ev.bnd, Ev.bndB, Ev.bndL, Ev.bndI, Ev.okO, Ev.okB, Ev.okL, Ev.evVar, Ev.fC, Ev.fBin, Ev.fCmp, Ev.fNot, Ev.fAnd, Ev.fOr, Ev.fIf, Ev.fChain, Ev.fIx, Ev.fSl, Ev.evP, Ev.lNil, Ev.lCons, Ev.consL, Ev.fTup, Ev.fLst, Ev.fBi, Ev.fCall, Ev.fIsi, Ev.fM, Ev.iVal, Ev.iRng1, Ev.iRng2, Ev.iZip, Ev.addD, Ev.subD, Ev.mulD, Ev.divD, Ev.modD, Ev.op, Ev.cmpI, Ev.pLt, Ev.pLe, Ev.pGt, Ev.pGe, Ev.neD, Ev.isN, Ev.isnD, Ev.lenD, Ev.intD, Ev.absD, Ev.tupD, Ev.lstD, Ev.Tn.has, Ev.ixD, Ev.itemsD, Ev.rngF1, Ev.rngF2, List.getElem?_cons_zero, List.getElem?_cons_succ, List.set_cons_zero, List.set_cons_succ, List.map_cons, List.map_nil, List.length_cons, List.length_nil, List.replicate, List.append_nil, List.cons_append, List.nil_append, Bool.not_true, Bool.not_false, Bool.false_eq_true, if_true, if_false, reduceIte, ite_true, ite_false, Option.bind_some, Option.bind_none, Option.map_some, Option.map_none, Ev.fInT, Ev.fIxT, Ev.inT, Ev.ixT, Ev.insAt, Ev.fSelf, Ev.sFset, Ev.sFapp, Ev.sFaug, Ev.sFdput, Ev.sFpop, Ev.dicAt, Ev.keyD, Ev.sFnew, Ev.sMeth, Ev.doM, Ev.defI, Ev.outI, Ev.slot0, Ev.sBor, Ev.keepO, Ev.keepE, Ev.sPop, Ev.sExt, Ev.catD, Ev.fCat, Ev.isIns, Ev.isCl, Ev.fPm, Ev.fPm0, Ev.fProp, Ev.okOnly, Ev.fldC, Ev.fFldC, Ev.sRetFz, Ev.fCm, Ev.lStar, Ev.starL, Ev.fLstF, Ev.fLz, Ev.lzD, Ev.tyOk, Ev.tyNm, Ev.slD, Ev.bindT, Ev.bindTs, Ev.evP, Nat.reduceAdd, Nat.reduceLT, Nat.lt_irrefl, beq_self_eq_true, h2, h4, e, pow18, h7, h8, Bool.true_or, decide_true]
        rfl
      · refine ⟨0, 0, by omega, ?_⟩
        simp only [Ev.defF, Ev.startE, Ev.outR, Ev.sSeq, Ev.seqO, Ev.sSet, Ev.sIf, Ev.sFor, Ev.sRet, Ev.sRetOw, Ev.sNx, Ev.sApp, Ev.appO, Ev.lstAt, Ev.sFrz, Ev.unsO, Ev.bndS, Ev.bndSB, Ev.bndSL, Ev.bnd, Ev.bndB, Ev.bndL, Ev.bndI, Ev.okO, Ev.okB, Ev.okL, Ev.evVar, Ev.fC, Ev.fBin, Ev.fCmp, Ev.fNot, Ev.fAnd, Ev.fOr, Ev.fIf, Ev.fChain, Ev.fIx, Ev.fSl, Ev.evP, Ev.lNil, Ev.lCons, Ev.consL, Ev.fTup, Ev.fLst, Ev.fBi, Ev.fCall, Ev.fIsi, Ev.fM, Ev.iVal, Ev.iRng1, Ev.iRng2, Ev.iZip, Ev.addD, Ev.subD, Ev.mulD, Ev.divD, Ev.modD, Ev.op, Ev.cmpI, Ev.pLt, Ev.pLe, Ev.pGt, Ev.pGe, Ev.neD, Ev.isN, Ev.isnD, Ev.lenD, Ev.intD, Ev.absD, Ev.tupD, Ev.lstD, Ev.Tn.has, Ev.ixD, Ev.itemsD, Ev.rngF1, Ev.rngF2, List.getElem?_cons_zero, List.getElem?_cons_succ, List.set_cons_zero, List.set_cons_succ, List.map_cons, List.map_nil, List.length_cons, List.length_nil, List.replicate, List.append_nil, List.cons_append, List.nil_append, Bool.not_true, Bool.not_false, Bool.false_eq_true, if_true, if_false, reduceIte, ite_true, ite_false, Option.bind_some, Option.bind_none, Option.map_some, Option.map_none, Ev.fInT, Ev.fIxT, Ev.inT, Ev.ixT, Ev.insAt, Ev.fSelf, Ev.sFset, Ev.sFapp, Ev.sFaug, Ev.sFdput, Ev.sFpop, Ev.dicAt, Ev.keyD, Ev.sFnew, Ev.sMeth, Ev.doM, Ev.defI, Ev.outI, Ev.slot0, Ev.sBor, Ev.keepO, Ev.keepE, Ev.sPop, Ev.sExt, Ev.catD, Ev.fCat, Ev.isIns, Ev.isCl, Ev.fPm, Ev.fPm0, Ev.fProp, Ev.okOnly, Ev.fldC, Ev.fFldC, Ev.sRetFz, Ev.fCm, Ev.lStar, Ev.starL, Ev.fLstF, Ev.fLz, Ev.lzD, Ev.tyOk, Ev.tyNm, Ev.slD, Ev.bindT, Ev.bindTs, Ev.evP, Nat.reduceAdd, Nat.reduceLT, Nat.lt_irrefl, beq_self_eq_true, h2, h4, e, pow18, h7, decide_false]
        rfl
    · refine ⟨0, 0, by omega, ?_⟩
      have h4 : decide (0 < (ns.length : Int)) = false := decide_eq_false (by omega)
      simp only [Ev.defF, Ev.startE, Ev.outR, Ev.sSeq, Ev.seqO, Ev.sSet, Ev.sIf, Ev.sFor, Ev.sRet, Ev.sRetOw, Ev.sNx, Ev.sApp, Ev.appO, Ev.lstAt, Ev.sFrz, Ev.unsO, Ev.bndS, Ev.bndSB, Ev.bndSL, Ev.bnd, Ev.bndB, Ev.bndL, Ev.bndI, Ev.okO, Ev.okB, Ev.okL, Ev.evVar, Ev.fC, Ev.fBin, Ev.fCmp, Ev.fNot, Ev.fAnd, Ev.fOr, Ev.fIf, Ev.fChain, Ev.fIx, Ev.fSl, Ev.evP, Ev.lNil, Ev.lCons, Ev.consL, Ev.fTup, Ev.fLst, Ev.fBi, Ev.fCall, Ev.fIsi, Ev.fM, Ev.iVal, Ev.iRng1, Ev.iRng2, Ev.iZip, Ev.addD, Ev.subD, Ev.mulD, Ev.divD, Ev.modD, Ev.op, Ev.cmpI, Ev.pLt, Ev.pLe, Ev.pGt, Ev.pGe, Ev.neD, Ev.isN, Ev.isnD, Ev.lenD, Ev.intD, Ev.absD, Ev.tupD, Ev.lstD, Ev.Tn.has, Ev.ixD, Ev.itemsD, Ev.rngF1, Ev.rngF2, List.getElem?_cons_zero, List.getElem?_cons_succ, List.set_cons_zero, List.set_cons_succ, List.map_cons, List.map_nil, List.length_cons, List.length_nil, List.replicate, List.append_nil, List.cons_append, List.nil_append, Bool.not_true, Bool.not_false, Bool.false_eq_true, if_true, if_false, reduceIte, ite_true, ite_false, Option.bind_some, Option.bind_none, Option.map_some, Option.map_none, Ev.fInT, Ev.fIxT, Ev.inT, Ev.ixT, Ev.insAt, Ev.fSelf, Ev.sFset, Ev.sFapp, Ev.sFaug, Ev.sFdput, Ev.sFpop, Ev.dicAt, Ev.keyD, Ev.sFnew, Ev.sMeth, Ev.doM, Ev.defI, Ev.outI, Ev.slot0, Ev.sBor, Ev.keepO, Ev.keepE, Ev.sPop, Ev.sExt, Ev.catD, Ev.fCat, Ev.isIns, Ev.isCl, Ev.fPm, Ev.fPm0, Ev.fProp, Ev.okOnly, Ev.fldC, Ev.fFldC, Ev.sRetFz, Ev.fCm, Ev.lStar, Ev.starL, Ev.fLstF, Ev.fLz, Ev.lzD, Ev.tyOk, Ev.tyNm, Ev.slD, Ev.bindT, Ev.bindTs, Ev.evP, Nat.reduceAdd, Nat.reduceLT, Nat.lt_irrefl, beq_self_eq_true, h2, h4]
      rfl
theorem lt_sL' {n : Nat} (h : n ≤ 1000) : n < sizeLine := lt_sL (by omega)
def numsL1 : So := (sSeq (sSet 8 (fBin modD (fBi intD (lCons (fBin mulD (evVar 5) (fBin addD (fC (.int 48271)) (fBin mulD (fC (.int 69621)) (fBin addD (evVar 7) (evVar 4))))) lNil)) (fC (.int 2147483647))))
  (sSeq (sApp 6 (fBin modD (fBi intD (lCons (fBin mulD (fBin mulD (evVar 8) (evVar 8)) (fC (.int 16807))) lNil)) (fC (.int 2147483629))))
  sNx))
def numsL2 : So := (sSeq (sApp 6 (fBin modD (fBi intD (lCons (evVar 5) lNil)) (fC (.int 100))))
  (sSeq (sSet 5 (fBin divD (evVar 5) (fC (.int 100))))
  sNx))
def numsB : So := (sSeq (sIf (fCmp (op pLt) (evVar 5) (fBin powD (fC (.int 10)) (fC (.int 18)))) (sSeq (sFor (.nm 7) (iRng1 (evVar 2)) numsL1)
  (sSeq (sRetOw 6)
  sNx)) sNx)
  (sSeq (sFor (.nm 7) (iRng1 (evVar 2)) numsL2)
  (sSeq (sRetOw 6)
  sNx)))
theorem nums_loops (ns : List Int) (at_ many : Nat) (hm : many ≤ 1000) (cell size : Int) (skip : Nat) (h0 : 0 ≤ size) :
    ∃ (l : List Int) (δ : Ev.Env), l.length = many ∧ (∀ x ∈ l, 0 ≤ x) ∧ numsB [some (.lck ns), some (.int at_), some (.int many), some (.int cell), some (.int skip), some (.int size), some (nd []), none, none] = some (.ret (nd l) δ) := by
  by_cases hs : size < 1000000000000000000
  · have hs2 : decide (size < 1000000000000000000) = true := decide_eq_true hs
    obtain ⟨δ', e, l, hl, hx, o7, o8, rfl⟩ := forGo_ind (t := .nm 7) (body := numsL1) (fun i δ => ∃ l : List Int, l.length = i ∧ (∀ x ∈ l, 0 ≤ x) ∧ ∃ o7 o8, δ = [some (.lck ns), some (.int at_), some (.int many), some (.int cell), some (.int skip), some (.int size), some (nd l), o7, o8]) (rngD 0 (many : Int)) 0
      [some (.lck ns), some (.int at_), some (.int many), some (.int cell), some (.int skip), some (.int size), some (nd []), none, none] ⟨[], rfl, fun _ h => (nomatch h), none, none, rfl⟩ (by
        rintro i d δ hd ⟨l, hl, hx, o7, o8, rfl⟩
        obtain ⟨rfl, hi⟩ := rngD_get hd
        have g1 : smallI 69621 = true := by kernel_rfl
        have g2 : smallI size = true := smallI_of h0 (by omega)
        have g3 : smallI 16807 = true := by kernel_rfl
        have g5 : ∀ a : Int, smallI (a % 2147483647) = true := fun a => smallI_of (Int.emod_nonneg _ (by decide)) (by have := Int.emod_lt_of_pos a (show (0 : Int) < 2147483647 by decide); omega)
        have g6 : l.length < sizeLine := lt_sL (by omega)
        generalize hmx : (size * (48271 + 69621 * ((i : Int) + (skip : Int)))) % 2147483647 = mx
        have g7 : smallI mx = true := hmx ▸ g5 _
        refine ⟨_, [some (.lck ns), some (.int at_), some (.int many), some (.int cell), some (.int skip), some (.int size), some (nd (l ++ [(mx * mx * 16807) % 2147483629])), some (.int i), some (.int mx)], rfl, ?_, l ++ [(mx * mx * 16807) % 2147483629], ?_, ?_, _, _, rfl⟩
        · rw [nd_app]
          unfold numsL1
          simp only [Ev.defF, Ev.startE, Ev.outR, Ev.sSeq, Ev.seqO, Ev.sSet, Ev.sIf, Ev.sFor, Ev.sRet, Ev.sRetOw, Ev.sNx, Ev.sApp, Ev.appO, Ev.lstAt, Ev.sFrz, Ev.unsO, Ev.bndS, Ev.bndSB, Ev.bndSL, Ev.bnd, Ev.bndB, Ev.bndL, Ev.bndI, Ev.okO, Ev.okB, Ev.okL, Ev.evVar, Ev.fC, Ev.fBin, Ev.fCmp, Ev.fNot, Ev.fAnd, Ev.fOr, Ev.fIf, Ev.fChain, Ev.fIx, Ev.fSl, Ev.evP, Ev.lNil, Ev.lCons, Ev.consL, Ev.fTup, Ev.fLst, Ev.fBi, Ev.fCall, Ev.fIsi, Ev.fM, Ev.iVal, Ev.iRng1, Ev.iRng2, Ev.iZip, Ev.addD, Ev.subD, Ev.mulD, Ev.divD, Ev.modD, Ev.op, Ev.cmpI, Ev.pLt, Ev.pLe, Ev.pGt, Ev.pGe, Ev.neD, Ev.isN, Ev.isnD, Ev.lenD, Ev.intD, Ev.absD, Ev.tupD, Ev.lstD, Ev.Tn.has, Ev.ixD, Ev.itemsD, Ev.rngF1, Ev.rngF2, List.getElem?_cons_zero, List.getElem?_cons_succ, List.set_cons_zero, List.set_cons_succ, List.map_cons, List.map_nil, List.length_cons, List.length_nil, List.replicate, List.append_nil, List.cons_append, List.nil_append, Bool.not_true, Bool.not_false, Bool.false_eq_true, if_true, if_false, reduceIte, ite_true, ite_false, Option.bind_some, Option.bind_none, Option.map_some, Option.map_none, Ev.fInT, Ev.fIxT, Ev.inT, Ev.ixT, Ev.insAt, Ev.fSelf, Ev.sFset, Ev.sFapp, Ev.sFaug, Ev.sFdput, Ev.sFpop, Ev.dicAt, Ev.keyD, Ev.sFnew, Ev.sMeth, Ev.doM, Ev.defI, Ev.outI, Ev.slot0, Ev.sBor, Ev.keepO, Ev.keepE, Ev.sPop, Ev.sExt, Ev.catD, Ev.fCat, Ev.isIns, Ev.isCl, Ev.fPm, Ev.fPm0, Ev.fProp, Ev.okOnly, Ev.fldC, Ev.fFldC, Ev.sRetFz, Ev.fCm, Ev.lStar, Ev.starL, Ev.fLstF, Ev.fLz, Ev.lzD, Ev.tyOk, Ev.tyNm, Ev.slD, Ev.bindT, Ev.bindTs, Ev.evP, Nat.reduceAdd, Nat.reduceLT, Nat.lt_irrefl, beq_self_eq_true, g1, g2, g3, g7, g6, hmx, Bool.true_or, Bool.or_true, List.length_map, List.map_append, decide_true, show decide ((0 : Int) < 2147483647) = true from rfl, show decide ((0 : Int) < 2147483629) = true from rfl]
        · rw [List.length_append, List.length_singleton]; omega
        · intro x hq
          rcases List.mem_append.mp hq with q | q
          · exact hx x q
          · rw [List.mem_singleton.mp q]; exact Int.emod_nonneg _ (by decide))
    rw [rngD_len, Nat.zero_add] at hl
    refine ⟨l, [some (.lck ns), some (.int at_), some (.int many), some (.int cell), some (.int skip), some (.int size), none, o7, o8], hl, hx, ?_⟩
    unfold numsB
    simp only [Ev.defF, Ev.startE, Ev.outR, Ev.sSeq, Ev.seqO, Ev.sSet, Ev.sIf, Ev.sFor, Ev.sRet, Ev.sRetOw, Ev.sNx, Ev.sApp, Ev.appO, Ev.lstAt, Ev.sFrz, Ev.unsO, Ev.bndS, Ev.bndSB, Ev.bndSL, Ev.bnd, Ev.bndB, Ev.bndL, Ev.bndI, Ev.okO, Ev.okB, Ev.okL, Ev.evVar, Ev.fC, Ev.fBin, Ev.fCmp, Ev.fNot, Ev.fAnd, Ev.fOr, Ev.fIf, Ev.fChain, Ev.fIx, Ev.fSl, Ev.evP, Ev.lNil, Ev.lCons, Ev.consL, Ev.fTup, Ev.fLst, Ev.fBi, Ev.fCall, Ev.fIsi, Ev.fM, Ev.iVal, Ev.iRng1, Ev.iRng2, Ev.iZip, Ev.addD, Ev.subD, Ev.mulD, Ev.divD, Ev.modD, Ev.op, Ev.cmpI, Ev.pLt, Ev.pLe, Ev.pGt, Ev.pGe, Ev.neD, Ev.isN, Ev.isnD, Ev.lenD, Ev.intD, Ev.absD, Ev.tupD, Ev.lstD, Ev.Tn.has, Ev.ixD, Ev.itemsD, Ev.rngF1, Ev.rngF2, List.getElem?_cons_zero, List.getElem?_cons_succ, List.set_cons_zero, List.set_cons_succ, List.map_cons, List.map_nil, List.length_cons, List.length_nil, List.replicate, List.append_nil, List.cons_append, List.nil_append, Bool.not_true, Bool.not_false, Bool.false_eq_true, if_true, if_false, reduceIte, ite_true, ite_false, Option.bind_some, Option.bind_none, Option.map_some, Option.map_none, Ev.fInT, Ev.fIxT, Ev.inT, Ev.ixT, Ev.insAt, Ev.fSelf, Ev.sFset, Ev.sFapp, Ev.sFaug, Ev.sFdput, Ev.sFpop, Ev.dicAt, Ev.keyD, Ev.sFnew, Ev.sMeth, Ev.doM, Ev.defI, Ev.outI, Ev.slot0, Ev.sBor, Ev.keepO, Ev.keepE, Ev.sPop, Ev.sExt, Ev.catD, Ev.fCat, Ev.isIns, Ev.isCl, Ev.fPm, Ev.fPm0, Ev.fProp, Ev.okOnly, Ev.fldC, Ev.fFldC, Ev.sRetFz, Ev.fCm, Ev.lStar, Ev.starL, Ev.fLstF, Ev.fLz, Ev.lzD, Ev.tyOk, Ev.tyNm, Ev.slD, Ev.bindT, Ev.bindTs, Ev.evP, Nat.reduceAdd, Nat.reduceLT, Nat.lt_irrefl, beq_self_eq_true, pow18, hs2, rngOk0 (show many ≤ 1000000 by omega)]
    rw [e]
    simp only [Ev.defF, Ev.startE, Ev.outR, Ev.sSeq, Ev.seqO, Ev.sSet, Ev.sIf, Ev.sFor, Ev.sRet, Ev.sRetOw, Ev.sNx, Ev.sApp, Ev.appO, Ev.lstAt, Ev.sFrz, Ev.unsO, Ev.bndS, Ev.bndSB, Ev.bndSL, Ev.bnd, Ev.bndB, Ev.bndL, Ev.bndI, Ev.okO, Ev.okB, Ev.okL, Ev.evVar, Ev.fC, Ev.fBin, Ev.fCmp, Ev.fNot, Ev.fAnd, Ev.fOr, Ev.fIf, Ev.fChain, Ev.fIx, Ev.fSl, Ev.evP, Ev.lNil, Ev.lCons, Ev.consL, Ev.fTup, Ev.fLst, Ev.fBi, Ev.fCall, Ev.fIsi, Ev.fM, Ev.iVal, Ev.iRng1, Ev.iRng2, Ev.iZip, Ev.addD, Ev.subD, Ev.mulD, Ev.divD, Ev.modD, Ev.op, Ev.cmpI, Ev.pLt, Ev.pLe, Ev.pGt, Ev.pGe, Ev.neD, Ev.isN, Ev.isnD, Ev.lenD, Ev.intD, Ev.absD, Ev.tupD, Ev.lstD, Ev.Tn.has, Ev.ixD, Ev.itemsD, Ev.rngF1, Ev.rngF2, List.getElem?_cons_zero, List.getElem?_cons_succ, List.set_cons_zero, List.set_cons_succ, List.map_cons, List.map_nil, List.length_cons, List.length_nil, List.replicate, List.append_nil, List.cons_append, List.nil_append, Bool.not_true, Bool.not_false, Bool.false_eq_true, if_true, if_false, reduceIte, ite_true, ite_false, Option.bind_some, Option.bind_none, Option.map_some, Option.map_none, Ev.fInT, Ev.fIxT, Ev.inT, Ev.ixT, Ev.insAt, Ev.fSelf, Ev.sFset, Ev.sFapp, Ev.sFaug, Ev.sFdput, Ev.sFpop, Ev.dicAt, Ev.keyD, Ev.sFnew, Ev.sMeth, Ev.doM, Ev.defI, Ev.outI, Ev.slot0, Ev.sBor, Ev.keepO, Ev.keepE, Ev.sPop, Ev.sExt, Ev.catD, Ev.fCat, Ev.isIns, Ev.isCl, Ev.fPm, Ev.fPm0, Ev.fProp, Ev.okOnly, Ev.fldC, Ev.fFldC, Ev.sRetFz, Ev.fCm, Ev.lStar, Ev.starL, Ev.fLstF, Ev.fLz, Ev.lzD, Ev.tyOk, Ev.tyNm, Ev.slD, Ev.bindT, Ev.bindTs, Ev.evP, Nat.reduceAdd, Nat.reduceLT, Nat.lt_irrefl, beq_self_eq_true]
  · have hs2 : decide (size < 1000000000000000000) = false := decide_eq_false hs
    obtain ⟨δ', e, l, sz, hl, hx, hz, o7, rfl⟩ := forGo_ind (t := .nm 7) (body := numsL2) (fun i δ => ∃ (l : List Int) (sz : Int), l.length = i ∧ (∀ x ∈ l, 0 ≤ x) ∧ 0 ≤ sz ∧ ∃ o7, δ = [some (.lck ns), some (.int at_), some (.int many), some (.int cell), some (.int skip), some (.int sz), some (nd l), o7, none]) (rngD 0 (many : Int)) 0
      [some (.lck ns), some (.int at_), some (.int many), some (.int cell), some (.int skip), some (.int size), some (nd []), none, none] ⟨[], size, rfl, fun _ h => (nomatch h), h0, none, rfl⟩ (by
        rintro i d δ hd ⟨l, sz, hl, hx, hz, o7, rfl⟩
        obtain ⟨rfl, hi⟩ := rngD_get hd
        have g6 : l.length < sizeLine := lt_sL (by omega)
        refine ⟨_, [some (.lck ns), some (.int at_), some (.int many), some (.int cell), some (.int skip), some (.int (sz / 100)), some (nd (l ++ [sz % 100])), some (.int i), none], rfl, ?_, l ++ [sz % 100], sz / 100, ?_, ?_, Int.ediv_nonneg hz (by decide), _, rfl⟩
        · rw [nd_app]
          unfold numsL2
          simp only [Ev.defF, Ev.startE, Ev.outR, Ev.sSeq, Ev.seqO, Ev.sSet, Ev.sIf, Ev.sFor, Ev.sRet, Ev.sRetOw, Ev.sNx, Ev.sApp, Ev.appO, Ev.lstAt, Ev.sFrz, Ev.unsO, Ev.bndS, Ev.bndSB, Ev.bndSL, Ev.bnd, Ev.bndB, Ev.bndL, Ev.bndI, Ev.okO, Ev.okB, Ev.okL, Ev.evVar, Ev.fC, Ev.fBin, Ev.fCmp, Ev.fNot, Ev.fAnd, Ev.fOr, Ev.fIf, Ev.fChain, Ev.fIx, Ev.fSl, Ev.evP, Ev.lNil, Ev.lCons, Ev.consL, Ev.fTup, Ev.fLst, Ev.fBi, Ev.fCall, Ev.fIsi, Ev.fM, Ev.iVal, Ev.iRng1, Ev.iRng2, Ev.iZip, Ev.addD, Ev.subD, Ev.mulD, Ev.divD, Ev.modD, Ev.op, Ev.cmpI, Ev.pLt, Ev.pLe, Ev.pGt, Ev.pGe, Ev.neD, Ev.isN, Ev.isnD, Ev.lenD, Ev.intD, Ev.absD, Ev.tupD, Ev.lstD, Ev.Tn.has, Ev.ixD, Ev.itemsD, Ev.rngF1, Ev.rngF2, List.getElem?_cons_zero, List.getElem?_cons_succ, List.set_cons_zero, List.set_cons_succ, List.map_cons, List.map_nil, List.length_cons, List.length_nil, List.replicate, List.append_nil, List.cons_append, List.nil_append, Bool.not_true, Bool.not_false, Bool.false_eq_true, if_true, if_false, reduceIte, ite_true, ite_false, Option.bind_some, Option.bind_none, Option.map_some, Option.map_none, Ev.fInT, Ev.fIxT, Ev.inT, Ev.ixT, Ev.insAt, Ev.fSelf, Ev.sFset, Ev.sFapp, Ev.sFaug, Ev.sFdput, Ev.sFpop, Ev.dicAt, Ev.keyD, Ev.sFnew, Ev.sMeth, Ev.doM, Ev.defI, Ev.outI, Ev.slot0, Ev.sBor, Ev.keepO, Ev.keepE, Ev.sPop, Ev.sExt, Ev.catD, Ev.fCat, Ev.isIns, Ev.isCl, Ev.fPm, Ev.fPm0, Ev.fProp, Ev.okOnly, Ev.fldC, Ev.fFldC, Ev.sRetFz, Ev.fCm, Ev.lStar, Ev.starL, Ev.fLstF, Ev.fLz, Ev.lzD, Ev.tyOk, Ev.tyNm, Ev.slD, Ev.bindT, Ev.bindTs, Ev.evP, Nat.reduceAdd, Nat.reduceLT, Nat.lt_irrefl, beq_self_eq_true, g6, Bool.true_or, Bool.or_true, List.length_map, List.map_append, decide_true, show decide ((0 : Int) < 100) = true from rfl, show decide ((100 : Int) < 1073741824) = true from rfl, Bool.and_true]
        · rw [List.length_append, List.length_singleton]; omega
        · intro x hq
          rcases List.mem_append.mp hq with q | q
          · exact hx x q
          · rw [List.mem_singleton.mp q]; exact Int.emod_nonneg _ (by decide))
    rw [rngD_len, Nat.zero_add] at hl
    refine ⟨l, [some (.lck ns), some (.int at_), some (.int many), some (.int cell), some (.int skip), some (.int sz), none, o7, none], hl, hx, ?_⟩
    unfold numsB
    simp only [Ev.defF, Ev.startE, Ev.outR, Ev.sSeq, Ev.seqO, Ev.sSet, Ev.sIf, Ev.sFor, Ev.sRet, Ev.sRetOw, Ev.sNx, Ev.sApp, Ev.appO, Ev.lstAt, Ev.sFrz, Ev.unsO, Ev.bndS, Ev.bndSB, Ev.bndSL, Ev.bnd, Ev.bndB, Ev.bndL, Ev.bndI, Ev.okO, Ev.okB, Ev.okL, Ev.evVar, Ev.fC, Ev.fBin, Ev.fCmp, Ev.fNot, Ev.fAnd, Ev.fOr, Ev.fIf, Ev.fChain, Ev.fIx, Ev.fSl, Ev.evP, Ev.lNil, Ev.lCons, Ev.consL, Ev.fTup, Ev.fLst, Ev.fBi, Ev.fCall, Ev.fIsi, Ev.fM, Ev.iVal, Ev.iRng1, Ev.iRng2, Ev.iZip, Ev.addD, Ev.subD, Ev.mulD, Ev.divD, Ev.modD, Ev.op, Ev.cmpI, Ev.pLt, Ev.pLe, Ev.pGt, Ev.pGe, Ev.neD, Ev.isN, Ev.isnD, Ev.lenD, Ev.intD, Ev.absD, Ev.tupD, Ev.lstD, Ev.Tn.has, Ev.ixD, Ev.itemsD, Ev.rngF1, Ev.rngF2, List.getElem?_cons_zero, List.getElem?_cons_succ, List.set_cons_zero, List.set_cons_succ, List.map_cons, List.map_nil, List.length_cons, List.length_nil, List.replicate, List.append_nil, List.cons_append, List.nil_append, Bool.not_true, Bool.not_false, Bool.false_eq_true, if_true, if_false, reduceIte, ite_true, ite_false, Option.bind_some, Option.bind_none, Option.map_some, Option.map_none, Ev.fInT, Ev.fIxT, Ev.inT, Ev.ixT, Ev.insAt, Ev.fSelf, Ev.sFset, Ev.sFapp, Ev.sFaug, Ev.sFdput, Ev.sFpop, Ev.dicAt, Ev.keyD, Ev.sFnew, Ev.sMeth, Ev.doM, Ev.defI, Ev.outI, Ev.slot0, Ev.sBor, Ev.keepO, Ev.keepE, Ev.sPop, Ev.sExt, Ev.catD, Ev.fCat, Ev.isIns, Ev.isCl, Ev.fPm, Ev.fPm0, Ev.fProp, Ev.okOnly, Ev.fldC, Ev.fFldC, Ev.sRetFz, Ev.fCm, Ev.lStar, Ev.starL, Ev.fLstF, Ev.fLz, Ev.lzD, Ev.tyOk, Ev.tyNm, Ev.slD, Ev.bindT, Ev.bindTs, Ev.evP, Nat.reduceAdd, Nat.reduceLT, Nat.lt_irrefl, beq_self_eq_true, pow18, hs2, rngOk0 (show many ≤ 1000000 by omega)]
    rw [e]
    simp only [Ev.defF, Ev.startE, Ev.outR, Ev.sSeq, Ev.seqO, Ev.sSet, Ev.sIf, Ev.sFor, Ev.sRet, Ev.sRetOw, Ev.sNx, Ev.sApp, Ev.appO, Ev.lstAt, Ev.sFrz, Ev.unsO, Ev.bndS, Ev.bndSB, Ev.bndSL, Ev.bnd, Ev.bndB, Ev.bndL, Ev.bndI, Ev.okO, Ev.okB, Ev.okL, Ev.evVar, Ev.fC, Ev.fBin, Ev.fCmp, Ev.fNot, Ev.fAnd, Ev.fOr, Ev.fIf, Ev.fChain, Ev.fIx, Ev.fSl, Ev.evP, Ev.lNil, Ev.lCons, Ev.consL, Ev.fTup, Ev.fLst, Ev.fBi, Ev.fCall, Ev.fIsi, Ev.fM, Ev.iVal, Ev.iRng1, Ev.iRng2, Ev.iZip, Ev.addD, Ev.subD, Ev.mulD, Ev.divD, Ev.modD, Ev.op, Ev.cmpI, Ev.pLt, Ev.pLe, Ev.pGt, Ev.pGe, Ev.neD, Ev.isN, Ev.isnD, Ev.lenD, Ev.intD, Ev.absD, Ev.tupD, Ev.lstD, Ev.Tn.has, Ev.ixD, Ev.itemsD, Ev.rngF1, Ev.rngF2, List.getElem?_cons_zero, List.getElem?_cons_succ, List.set_cons_zero, List.set_cons_succ, List.map_cons, List.map_nil, List.length_cons, List.length_nil, List.replicate, List.append_nil, List.cons_append, List.nil_append, Bool.not_true, Bool.not_false, Bool.false_eq_true, if_true, if_false, reduceIte, ite_true, ite_false, Option.bind_some, Option.bind_none, Option.map_some, Option.map_none, Ev.fInT, Ev.fIxT, Ev.inT, Ev.ixT, Ev.insAt, Ev.fSelf, Ev.sFset, Ev.sFapp, Ev.sFaug, Ev.sFdput, Ev.sFpop, Ev.dicAt, Ev.keyD, Ev.sFnew, Ev.sMeth, Ev.doM, Ev.defI, Ev.outI, Ev.slot0, Ev.sBor, Ev.keepO, Ev.keepE, Ev.sPop, Ev.sExt, Ev.catD, Ev.fCat, Ev.isIns, Ev.isCl, Ev.fPm, Ev.fPm0, Ev.fProp, Ev.okOnly, Ev.fldC, Ev.fFldC, Ev.sRetFz, Ev.fCm, Ev.lStar, Ev.starL, Ev.fLstF, Ev.fLz, Ev.lzD, Ev.tyOk, Ev.tyNm, Ev.slD, Ev.bindT, Ev.bindTs, Ev.evP, Nat.reduceAdd, Nat.reduceLT, Nat.lt_irrefl, beq_self_eq_true]
theorem numbers (ns : List Int) (at_ many : Nat) (ha : at_ ≤ 1000) (hm : many ≤ 1000) : ∃ l : List Int, l.length = many ∧ (∀ x ∈ l, 0 ≤ x) ∧ φ_law_numbers [.lck ns, .int at_, .int many] = some (.ok (nd l)) := by
  obtain ⟨cell, skip, _, e1⟩ := nums_first ns at_ many ha
  have hsz : 0 ≤ (if cell < 0 then -cell else cell) + (if decide (cell < 0) = true then 1 else 0) := by
    by_cases h : cell < 0
    · rw [if_pos h, if_pos (decide_eq_true h)]; omega
    · rw [if_neg h, if_neg (by simp [h])]; omega
  obtain ⟨l, δ, hl, hx, e2⟩ := nums_loops ns at_ many hm cell _ skip hsz
  refine ⟨l, hl, hx, ?_⟩
  have key : g_law_numbers [some (.lck ns), some (.int at_), some (.int many), none, none, none, none, none, none] = some (.ret (nd l) δ) := by
    unfold g_law_numbers
    rw [seq_nx (δ' := [some (.lck ns), some (.int at_), some (.int many), some (.int 0), none, none, none, none, none]) rfl, seq_nx (δ' := [some (.lck ns), some (.int at_), some (.int many), some (.int 0), some (.int 0), none, none, none, none]) rfl, seq_nx e1,
      seq_nx (δ' := [some (.lck ns), some (.int at_), some (.int many), some (.int cell), some (.int skip), some (.int ((if cell < 0 then -cell else cell) + (if decide (cell < 0) = true then 1 else 0))), none, none, none]) rfl,
      seq_nx (δ' := [some (.lck ns), some (.int at_), some (.int many), some (.int cell), some (.int skip), some (.int ((if cell < 0 then -cell else cell) + (if decide (cell < 0) = true then 1 else 0))), some (nd []), none, none]) rfl]
    exact e2
  unfold φ_law_numbers defF
  rw [show startE 9 [D.lck ns, D.int at_, D.int many] = [some (.lck ns), some (.int at_), some (.int many), none, none, none, none, none, none] from rfl, key]
  rfl
end Q

set_option maxHeartbeats 4000000
/-! _law_row, _law_body. -/
namespace Q
open PySem PySem.Spec PyProof.Rows L2 Ev Z
def stL (l : List Str) : D := .lst (l.map D.str)
def nmD (lk hk rn : List Str) : D := .lst [stL lk, stL hk, stL rn]
def enD (q : Str × Int) : D := .lst [.str q.1, .int q.2]
theorem look_of_mem {x : Str} {k : Int} : ∀ {l : List (Str × Int)}, (l.map (·.1)).Nodup → (x, k) ∈ l → l.lookup x = some k
  | (y, v) :: l, nd, h => by
    rw [List.map_cons, List.nodup_cons] at nd
    rw [List.lookup_cons]
    rcases List.mem_cons.mp h with e | h
    · cases e; simp
    · have hne : (x == y) = false := by
        have : x ≠ y := fun e => nd.1 (e ▸ List.mem_map_of_mem (f := (·.1)) h)
        simpa using this
      rw [hne]
      exact look_of_mem nd.2 h
def tkNext (w x : Str) (tk : List Str) : List Str := if w = "acquire" then tk ++ [x] else if w = "release" then tk.dropLast else tk
/-- what _law_row's answer is worth -/
def RowOk (C : Ctx) (tk : List Str) (w x : Str) (c : Int) : Prop := w = "" ∨ (w ≠ "" ∧ (w = "release" → tk ≠ []) ∧ ∀ cost, stm C tk cost w x = some (tkNext w x tk, cost + c))
theorem and_chain (δ : Ev.Env) (lo hi a : Int) (fl : EF) (ds : List D) (h5 : δ[5]? = some (some (.int a))) (hl : fl δ = some (.ok (.lst ds))) :
    fAnd (fChain (op pLe) (op pLt) (fC (.int lo)) (evVar 5) (fC (.int hi))) (fCmp (op pGt) (fBi lenD (lCons fl lNil)) (fC (.int 0))) δ = some (.ok (.bl (decide (lo ≤ a) && (decide (a < hi) && decide (0 < ds.length))))) := by
  have e : decide ((0 : Int) < (ds.length : Int)) = decide (0 < ds.length) := by simp
  simp only [fAnd, fChain, fC, evVar, h5, bnd, okB, op, cmpI, pLe, bndB]
  cases h1 : decide (lo ≤ a)
  · simp only [if_false, Bool.false_eq_true, Bool.false_and]
  · simp only [if_true, bnd, okB, cmpI, pLt, bndB]
    cases h2 : decide (a < hi)
    · simp only [if_false, Bool.false_eq_true, Bool.false_and, Bool.and_false]
    · simp only [if_true, fCmp, fBi, lCons, hl, lNil, consL, bndL, lenD, okO, bnd, fC, op, cmpI, pGt, okB, e, Bool.true_and]
theorem sif_nx {fc : EF} {ga gb : So} {δ : Ev.Env} (h : fc δ = some (.ok (.bl false))) (hb : gb δ = some (.nx δ)) : sIf fc ga gb δ = some (.nx δ) := by simp only [sIf, h, bndSB, Bool.false_eq_true, if_false, hb]
theorem sif_t {fc : EF} {ga gb : So} {δ : Ev.Env} (h : fc δ = some (.ok (.bl true))) : sIf fc ga gb δ = ga δ := by simp only [sIf, h, bndSB, if_true]
theorem sif_f {fc : EF} {ga gb : So} {δ : Ev.Env} (h : fc δ = some (.ok (.bl false))) : sIf fc ga gb δ = gb δ := by simp only [sIf, h, bndSB, if_false, Bool.false_eq_true]
theorem ret_seq {g : So} {δ : Ev.Env} {d : D} {δ' : Ev.Env} (h : g δ = some (.ret d δ')) : sSeq g sNx δ = some (.ret d δ') := seq_ret h
theorem pick {l : List Str} {a : Int} (h : 0 < l.length) : ∃ x ∈ l, atI (l.map D.str) (a % (l.length : Int)) = some (.str x) := by
  obtain ⟨d, e, hd⟩ := atI_in (xs := l.map D.str) (i := a % (l.length : Int)) (Int.emod_nonneg _ (by omega)) (by rw [List.length_map]; exact Int.emod_lt_of_pos _ (by omega))
  obtain ⟨x, hx, rfl⟩ := List.mem_map.mp hd
  exact ⟨x, hx, e⟩
/-! ### _law_body -/
def bodyE (code nm en : D) (rs : List (Str × Str)) (tk : List Str) (tot : Int) (a b c : Option D) : Ev.Env := [some code, some nm, some en, some (.lst (rs.map rwD)), some (stL tk), some (.int tot), a, b, c, none]
theorem rel_all (C : Ctx) : ∀ (m : List Str) (c : Int), (∀ x ∈ m, x ∈ C.locks) → stms C m.reverse c (m.map fun x => (("release", x) : Str × Str)) = some ([], c + m.length)
  | [], c, _ => by simp [stms]
  | x :: m, c, h => by
    have hx := h x (List.mem_cons_self ..)
    have e : stm C (x :: m).reverse c "release" x = some (m.reverse, c + 1) := by
      unfold stm
      rw [if_neg (by decide +kernel), if_pos rfl, if_pos ⟨hx, by simp⟩]
      simp
    simp only [List.map_cons, stms, e, Option.bind_some]
    rw [rel_all C m (c + 1) fun y hy => h y (List.mem_cons_of_mem _ hy), List.length_cons]
    congr 2
    omega
end Q

set_option maxHeartbeats 4000000
/-! _law_names, _law_picked, _law_codes, _law_wide. -/
namespace Q
open PySem PySem.Spec PyProof.Rows L2 Ev Z
def inL (l : List Int) : D := .lst (l.map D.int)
theorem mod_int (i : Int) {j : Int} (h : 0 < j) : modD (.int i) (.int j) = some (.int (i % j)) := by
  show (if _ then _ else _) = _
  rw [if_pos (decide_eq_true h)]
theorem cut_at {α : Type} (xs : List α) (i : Nat) (h : i < xs.length) : xs.take i ++ xs.drop (i + 1) = xs.eraseIdx i := (List.eraseIdx_eq_take_drop_succ xs i).symm
theorem perm_erase {α : Type} (xs : List α) (i : Nat) (h : i < xs.length) : xs.Perm (xs[i] :: (xs.take i ++ xs.drop (i + 1))) := by
  have e : xs = xs.take i ++ xs[i] :: xs.drop (i + 1) := by rw [List.getElem_cons_drop h, List.take_append_drop]
  exact (List.Perm.of_eq e).trans List.perm_middle
theorem set_eq {i : Nat} {fa : EF} {δ : Ev.Env} {d : D} (h : fa δ = some (.ok d)) : sSet i fa δ = some (.nx (δ.set i (some d))) := by simp only [sSet, h, bndS]
theorem bin_eq {f : D → D → Option D} {fa fb : EF} {δ : Ev.Env} {x y d : D} (ha : fa δ = some (.ok x)) (hb : fb δ = some (.ok y)) (h : f x y = some d) : fBin f fa fb δ = some (.ok d) := by simp only [fBin, ha, hb, bnd, h, okO]
theorem ix_eq {fa fb : EF} {δ : Ev.Env} {x y d : D} (ha : fa δ = some (.ok x)) (hb : fb δ = some (.ok y)) (h : ixD x y = some d) : fIx fa fb δ = some (.ok d) := by simp only [fIx, ha, hb, bnd, h, okO]
theorem bi1_eq {g : List D → Option D} {fa : EF} {δ : Ev.Env} {x d : D} (ha : fa δ = some (.ok x)) (h : g [x] = some d) : fBi g (lCons fa lNil) δ = some (.ok d) := by simp only [fBi, lCons, lNil, ha, consL, bndL, h, okO]
theorem cmp_eq {f : D → D → Option Bool} {fa fb : EF} {δ : Ev.Env} {x y : D} {b : Bool} (ha : fa δ = some (.ok x)) (hb : fb δ = some (.ok y)) (h : f x y = some b) : fCmp f fa fb δ = some (.ok (.bl b)) := by simp only [fCmp, ha, hb, bnd, h, okB]
def pickL : So := (sSeq (sIf (fCmp (op pLt) (fBin modD (fBi intD (lCons (fIx (evVar 1) (evVar 4)) lNil)) (fC (.int 3))) (fC (.int 2))) (sSeq (sSet 5 (fBin modD (fBi intD (lCons (fBin divD (fIx (evVar 1) (evVar 4)) (fC (.int 3))) lNil)) (fBi lenD (lCons (evVar 2) lNil))))
  (sSeq (sApp 3 (fIx (evVar 2) (evVar 5)))
  (sSeq (sSet 2 (fBin addD (fSl (evVar 2) none (some (evVar 5))) (fSl (evVar 2) (some (fBin addD (evVar 5) (fC (.int 1)))) none)))
  sNx))) sNx)
  sNx)
/-! ### names -/
def words14 : List Str := ["end", "a", "invoke", "start", "hook", "release", "callback", "call", "skip", "baaaaaaa", "acquire", "return", "done", "entry"]
def steps6 : List Int := [1, 3, 5, 9, 11, 13]
def nameList (s : Nat) (st : Int) : List Str := (List.range 14).map fun k : Nat => words14.getD (((s : Int) + st * (k : Int)) % 14).toNat ""
def fresh3 : List Str := ["zz", "zy", "zzz"]
theorem names_fine : ∀ s ∈ List.range 14, ∀ st ∈ steps6, (nameList s st).Nodup ∧ (∀ x ∈ nameList s st, nameB x = true) ∧ ∀ z ∈ fresh3, z ∉ nameList s st := by decide +kernel
structure Names (W : List Str) : Prop where
  l : W.length = 14
  nd : W.Nodup
  nb : ∀ x ∈ W, nameB x = true
theorem words_d : D.lst (words14.map D.str) = .lst [.str "end", .str "a", .str "invoke", .str "start", .str "hook", .str "release", .str "callback", .str "call", .str "skip", .str "baaaaaaa", .str "acquire", .str "return", .str "done", .str "entry"] := rfl
theorem rng14 : rngD 0 14 = (List.range 14).map fun k : Nat => D.int (k : Int) := by kernel_rfl
theorem names_eq (a b : Int) : ∃ W : List Str, φ_law_names [.int a, .int b] = some (.ok (stL W)) ∧ Names W ∧ ∀ z ∈ fresh3, z ∉ W := by
  have hb0 : 0 ≤ b % 6 := Int.emod_nonneg _ (by decide)
  have hb1 : b % 6 < 6 := Int.emod_lt_of_pos _ (by decide)
  have ha0 : 0 ≤ a % 14 := Int.emod_nonneg _ (by decide)
  have ha1 : a % 14 < 14 := Int.emod_lt_of_pos _ (by decide)
  obtain ⟨s, hs⟩ := Int.eq_ofNat_of_zero_le ha0
  obtain ⟨dst, hst, hm⟩ := atI_in (xs := steps6.map D.int) (i := b % 6) hb0 (by show b % 6 < ((6 : Nat) : Int); omega)
  obtain ⟨st, hst2, rfl⟩ := List.mem_map.mp hm
  obtain ⟨f1, f2, f3⟩ := names_fine s (List.mem_range.mpr (by omega)) st hst2
  refine ⟨nameList s st, ?_, ⟨by simp [nameList], f1, f2⟩, f3⟩
  unfold φ_law_names defF
  rw [show startE 4 [D.int a, D.int b] = [some (.int a), some (.int b), none, none] from rfl]
  unfold g_law_names
  rw [seq_nx (δ' := [some (.int a), some (.int b), some (stL words14), none]) rfl]
  have e : lcF (.nm 3) none (fIx (evVar 2) (fBin modD (fBi intD (lCons (fBin addD (evVar 0) (fBin mulD (fIx (fLst (lCons (fC (.int 1)) (lCons (fC (.int 3)) (lCons (fC (.int 5)) (lCons (fC (.int 9)) (lCons (fC (.int 11)) (lCons (fC (.int 13)) lNil))))))) (fBin modD (fBi intD (lCons (evVar 1) lNil)) (fC (.int 6)))) (evVar 3))) lNil)) (fC (.int 14)))) (iRng1 (fC (.int 14))) [3] [some (.int a), some (.int b), some (stL words14), none] = some (.ok (stL (nameList s st))) := by
    have : stL (nameList s st) = .lst ((List.range 14).map fun k : Nat => D.str (words14.getD (((s : Int) + st * (k : Int)) % 14).toNat "")) := by unfold stL nameList; rw [List.map_map]; rfl
    rw [this]
    refine lc_map (enc := fun k : Nat => D.int (k : Int)) _ (List.range 14) ?_ (by decide) fun k hk => ⟨_, rfl, ?_⟩
    · simp only [Ev.iRng1, fC, bndI, rngF1]
      rw [show (14 : Int) = ((14 : Nat) : Int) from rfl, rngOk0 (by omega), ← rng14]
      rfl
    · have hk := List.mem_range.mp hk
      have q0 : 0 ≤ ((s : Int) + st * (k : Int)) % 14 := Int.emod_nonneg _ (by decide)
      have q1 : ((s : Int) + st * (k : Int)) % 14 < 14 := Int.emod_lt_of_pos _ (by decide)
      have e1 : (a + st * (k : Int)) % 14 = ((s : Int) + st * (k : Int)) % 14 := by
        have : (s : Int) = a % 14 := hs.symm
        rw [this, Int.emod_add_emod]
      obtain ⟨j, hj⟩ := Int.eq_ofNat_of_zero_le q0
      have hj2 : j < words14.length := by show j < 14; omega
      have e2 : atI (words14.map D.str) (((s : Int) + st * (k : Int)) % 14) = some (.str (words14.getD (((s : Int) + st * (k : Int)) % 14).toNat "")) := by
        rw [hj, atI_lit, List.getElem?_map, List.getElem?_eq_getElem hj2]
        show some (D.str words14[j]) = some (D.str (words14.getD (j : Int).toNat ""))
        rw [Int.toNat_natCast, List.getD_eq_getElem?_getD, List.getElem?_eq_getElem hj2]
        rfl
      have e3 : atI [D.int 1, .int 3, .int 5, .int 9, .int 11, .int 13] (b % 6) = some (.int st) := hst
      have e4 : mulD (.int st) (.int (k : Int)) = some (.int (st * k)) := by
        show (if _ then _ else _) = _
        rw [if_pos]
        rw [Bool.or_eq_true]
        right
        unfold smallI
        exact decide_eq_true (by omega)
      simp only [fIx, fBin, fBi, fLst, lCons, lNil, fC, evVar, unsetL, consL, bndL, bnd, List.getElem?_cons_succ, List.getElem?_cons_zero, List.set_cons_succ, List.set_cons_zero, Ev.intD, okO, mod_int _ (show (0 : Int) < 6 by decide), mod_int _ (show (0 : Int) < 14 by decide), ixD, e3, e4, add_int, e1, stL, e2]
  simp only [sSeq, sRet, e, bndS, seqO, outR]
end Q

set_option maxHeartbeats 4000000
/-! law_k76: every class of errors. -/
namespace Q
open PySem PySem.Spec PyProof.Rows L2 Ev Z
/-- the class of k, and what it is made with -/
def cK (k : Nat) : Nat := if k = 21 then 0 else k + 1
def aK (k : Nat) (y z : D) : List D := if k = 9 ∨ k = 18 then [] else if k = 13 then [y, z] else [y]
def kindsL (k : Nat) : List D := [.bl (decide ((k : Int) < 7) || decide ((k : Int) = 21))] ++ ((List.range 21).map fun j : Nat => D.bl (decide ((j : Int) = (k : Int)))) ++ [.bl true]
theorem raise_eq (k : Nat) (hk : k < 22) (y z : D) : φ_law_raise [.int (k : Int), y, z] = some (.ex ⟨cK k, aK k y z⟩) := by
  rcases k with _ | _ | _ | _ | _ | _ | _ | _ | _ | _ | _ | _ | _ | _ | _ | _ | _ | _ | _ | _ | _ | _ | k
  all_goals first | omega | (kernel_rfl; done)
theorem ex_of {g : So} {fs : EL} {φ : Fn} {δ : Ev.Env} {ds : List D} {x : Xd} (h : fs δ = some (.ok ds)) (e : φ ds = some (.ex x)) : sSeq (sEx (fCall φ fs)) sNx δ = some (.ex x δ) := by
  simp only [sSeq, sEx, fCall, h, bndL, e, bndS, seqO]
theorem try1_at {g : So} {tb : List (Nat × Bool)} {i : Nat} {h : Xd → So} {δ δ1 : Ev.Env} {x : Xd} {r : Option Out} (e : g δ = some (.ex x δ1)) (l : tb.lookup x.c = some true) (q : hndO i (h x (δ1.set i (some .xv))) = r) : sTry1 g tb i h δ = r := by
  unfold sTry1
  rw [e]
  simp only [l]
  exact q
theorem tryV_at {g : So} {i : Nat} {cs : List Cls2} {tb : List (Nat × Bool)} {h : So} {δ δ1 : Ev.Env} {x : Xd} {r : Option Out} (e : g δ = some (.ex x δ1)) (q : pickV i x tb h δ1 cs = r) : sTryV g i cs tb h δ = r := by
  unfold sTryV
  rw [e]
  exact q
theorem kinds_eq (k : Nat) (hk : k < 22) (y z : D) : φ_law_kinds [.int (k : Int), y, z] = some (.ok (.lst (kindsL k))) := by
  have e := raise_eq k hk y z
  unfold φ_law_kinds defF
  rw [show startE 5 [D.int (k : Int), y, z] = [some (.int (k : Int)), some y, some z, none, none] from rfl]
  unfold g_law_kinds
  rw [seq_nx (δ' := [some (.int (k : Int)), some y, some z, some (.lst []), none]) rfl]
  rw [seq_nx (δ' := [some (.int (k : Int)), some y, some z, some (.lst (kindsL k)), none]) (by
    refine try1_at (x := ⟨cK k, aK k y z⟩) (ex_of (g := sNx) (ds := [.int (k : Int), y, z]) rfl e) ?_ ?_
    · clear e
      rcases k with _ | _ | _ | _ | _ | _ | _ | _ | _ | _ | _ | _ | _ | _ | _ | _ | _ | _ | _ | _ | _ | _ | k
      all_goals first | omega | rfl
    · clear e
      rcases k with _ | _ | _ | _ | _ | _ | _ | _ | _ | _ | _ | _ | _ | _ | _ | _ | _ | _ | _ | _ | _ | _ | k
      all_goals first | omega | (kernel_rfl; done))]
  rfl
theorem line_eq (k : Nat) (hk : k < 7 ∨ k = 21) (y : D) : φ_law_line_field [.int (k : Int), y] = some (.ok (.lst [y])) := by
  have e := raise_eq k (by omega) y y
  unfold φ_law_line_field defF
  rw [show startE 4 [D.int (k : Int), y] = [some (.int (k : Int)), some y, none, none] from rfl]
  unfold g_law_line_field
  rw [seq_nx (δ' := [some (.int (k : Int)), some y, some (.lst []), none]) rfl]
  rw [seq_nx (δ' := [some (.int (k : Int)), some y, some (.lst [y]), none]) (by
    refine try1_at (x := ⟨cK k, aK k y y⟩) (ex_of (g := sNx) (ds := [.int (k : Int), y, y]) rfl e) ?_ ?_
    · clear e
      rcases k with _ | _ | _ | _ | _ | _ | _ | _ | _ | _ | _ | _ | _ | _ | _ | _ | _ | _ | _ | _ | _ | _ | k
      all_goals first | omega | rfl
    · clear e
      rcases k with _ | _ | _ | _ | _ | _ | _ | _ | _ | _ | _ | _ | _ | _ | _ | _ | _ | _ | _ | _ | _ | _ | k
      all_goals first | omega | (kernel_rfl; done))]
  rfl
theorem fields_eq (k : Nat) (hk : ¬ (k < 7 ∨ k = 21)) (h2 : k < 22) (y z : D) : φ_law_fields [.int (k : Int), y, z] = some (.ok (.lst (aK k y z))) := by
  have e := raise_eq k h2 y z
  unfold φ_law_fields defF
  rw [show startE 5 [D.int (k : Int), y, z] = [some (.int (k : Int)), some y, some z, none, none] from rfl]
  unfold g_law_fields
  rw [seq_nx (δ' := [some (.int (k : Int)), some y, some z, some (.lst []), none]) rfl]
  rw [seq_nx (δ' := [some (.int (k : Int)), some y, some z, some (.lst (aK k y z)), none]) (by
    refine tryV_at (x := ⟨cK k, aK k y z⟩) (ex_of (g := sNx) (ds := [.int (k : Int), y, z]) rfl e) ?_
    clear e
    rcases k with _ | _ | _ | _ | _ | _ | _ | _ | _ | _ | _ | _ | _ | _ | _ | _ | _ | _ | _ | _ | _ | _ | k
    all_goals first | omega | (kernel_rfl; done))]
  rfl
theorem or_eq {fa fb : EF} {δ : Ev.Env} {a b : Bool} (ha : fa δ = some (.ok (.bl a))) (hb : fb δ = some (.ok (.bl b))) : fOr fa fb δ = some (.ok (.bl (a || b))) := by
  cases a <;> simp only [fOr, ha, bndB, if_true, if_false, Bool.false_eq_true, hb, Bool.true_or, Bool.false_or]
theorem not_eq {fa : EF} {δ : Ev.Env} {a : Bool} (ha : fa δ = some (.ok (.bl a))) : fNot fa δ = some (.ok (.bl (!a))) := by simp only [fNot, ha, bndB]
theorem ifn {fa : EF} {g : So} {δ : Ev.Env} (h : fa δ = some (.ok (.bl true))) : sIf (fNot fa) g sNx δ = some (.nx δ) := sif_nx (not_eq (a := true) h) rfl
theorem sif_ff {fc : EF} {ga gb : So} {δ : Ev.Env} (h : fc δ = some (.ok (.bl false))) : sIf fc ga gb δ = gb δ := by simp only [sIf, h, bndSB, Bool.false_eq_true, if_false]
theorem add_ll {xs ys : List D} (h : xs.length + ys.length ≤ 1000000) : addD (.lst xs) (.lst ys) = some (.lst (xs ++ ys)) := by
  show (if _ then _ else _) = _
  rw [if_pos (le_sL h)]
theorem cons_eq {fa : EF} {fs : EL} {δ : Ev.Env} {d : D} {ds : List D} (ha : fa δ = some (.ok d)) (hs : fs δ = some (.ok ds)) : lCons fa fs δ = some (.ok (d :: ds)) := by simp only [lCons, ha, hs, consL]
theorem call_eq {φ : Fn} {fs : EL} {δ : Ev.Env} {ds : List D} {r : D} (hs : fs δ = some (.ok ds)) (h : φ ds = some (.ok r)) : fCall φ fs δ = some (.ok r) := by simp only [fCall, hs, bndL, h]
theorem lst_eq {fs : EL} {δ : Ev.Env} {ds : List D} (hs : fs δ = some (.ok ds)) : fLst fs δ = some (.ok (.lst ds)) := by simp only [fLst, hs, bndL]
theorem tup_eq {fs : EL} {δ : Ev.Env} {ds : List D} (hs : fs δ = some (.ok ds)) : fTup fs δ = some (.ok (.tup ds)) := by simp only [fTup, hs, bndL]
theorem ret_eq {fa : EF} {δ : Ev.Env} {d : D} (h : fa δ = some (.ok d)) : sSeq (sRet fa) sNx δ = some (.ret d δ) := seq_ret (by simp only [sRet, h, bndS])
theorem ix_l {fa : EF} {l : List D} {i j : Nat} {δ : Ev.Env} {d : D} (h : δ[i]? = some (some (.lst l))) (hf : fa δ = some (.ok (.int (j : Int)))) (hd : l[j]? = some d) : fIx (evVar i) fa δ = some (.ok d) := by
  refine ix_eq (x := .lst l) (y := .int (j : Int)) (by simp only [evVar, h]) hf ?_
  show atI l (j : Int) = _
  rw [atI_lit, hd]
abbrev E7 (ns : List Int) (dr : List Int) (W : List Str) (n t u : Int) (V : List D) (o7 o8 o9 : Option D) : Ev.Env := [some (.lck ns), some (nd dr), some (.int n), some (stL W), some (.int t), some (.int u), some (.lst V), o7, o8, o9, none]
theorem turn (ns dr : List Int) (W : List Str) (n t u : Int) {V : List D} (hV : V.length = 22) (hp : V.all (fun d => pl 6 d && decide (wt d ≤ 10)) = true) {k : Nat} (hk : k < 22) (o8 o9 : Option D) : ∃ o8' o9', (sSeq (sSet 8 (fBin addD (fBin addD (fLst (lCons (fOr (fCmp (op pLt) (evVar 7) (fC (.int 7))) (fCmp (eqD) (evVar 7) (fC (.int 21)))) lNil)) (lcF (.nm 10) none (fCmp (eqD) (evVar 10) (evVar 7)) (iRng1 (fC (.int 21))) [10])) (fLst (lCons (fC (.bl true)) lNil))))
  (sSeq (sIf (fNot (fCall φ_law_same (lCons (fCall φ_law_kinds (lCons (evVar 7) (lCons (fIx (evVar 6) (evVar 7)) (lCons (evVar 5) lNil)))) (lCons (evVar 8) lNil)))) (sSeq (sRet (fC (.bl false)))
  sNx) sNx)
  (sSeq (sIf (fOr (fCmp (op pLt) (evVar 7) (fC (.int 7))) (fCmp (eqD) (evVar 7) (fC (.int 21)))) (sSeq (sIf (fNot (fCall φ_law_same (lCons (fCall φ_law_line_field (lCons (evVar 7) (lCons (fIx (evVar 6) (evVar 7)) lNil))) (lCons (fLst (lCons (fIx (evVar 6) (evVar 7)) lNil)) lNil)))) (sSeq (sRet (fC (.bl false)))
  sNx) sNx)
  sNx) (sSeq (sSet 9 (fLst (lCons (fIx (evVar 6) (evVar 7)) lNil)))
  (sSeq (sIf (fCmp (eqD) (evVar 7) (fC (.int 13))) (sSeq (sSet 9 (fLst (lCons (fIx (evVar 6) (evVar 7)) (lCons (evVar 5) lNil))))
  sNx) sNx)
  (sSeq (sIf (fOr (fCmp (eqD) (evVar 7) (fC (.int 9))) (fCmp (eqD) (evVar 7) (fC (.int 18)))) (sSeq (sSet 9 (fLst lNil))
  sNx) sNx)
  (sSeq (sIf (fNot (fCall φ_law_same (lCons (fCall φ_law_fields (lCons (evVar 7) (lCons (fIx (evVar 6) (evVar 7)) (lCons (evVar 5) lNil)))) (lCons (evVar 9) lNil)))) (sSeq (sRet (fC (.bl false)))
  sNx) sNx)
  sNx)))))
  sNx))) (E7 ns dr W n t u V (some (.int (k : Int))) o8 o9) = some (.nx (E7 ns dr W n t u V (some (.int (k : Int))) o8' o9')) := by
  obtain ⟨y, hy⟩ : ∃ y, V[k]? = some y := ⟨V[k]'(by omega), List.getElem?_eq_getElem _⟩
  have hp1 := List.all_eq_true.mp hp y (List.mem_of_getElem? hy)
  rw [Bool.and_eq_true, decide_eq_true_iff] at hp1
  obtain ⟨p1, p2⟩ := hp1
  have vi : ∀ o8 o9, fIx (evVar 6) (evVar 7) (E7 ns dr W n t u V (some (.int (k : Int))) o8 o9) = some (.ok y) := fun o8 o9 => ix_l (l := V) (i := 6) (j := k) rfl rfl hy
  have vc : ∀ o8 o9, fOr (fCmp (op pLt) (evVar 7) (fC (.int 7))) (fCmp (eqD) (evVar 7) (fC (.int 21))) (E7 ns dr W n t u V (some (.int (k : Int))) o8 o9) = some (.ok (.bl (decide ((k : Int) < 7) || decide ((k : Int) = 21)))) := fun o8 o9 => or_eq (cmp_eq (x := .int k) (y := .int 7) rfl rfl rfl) (cmp_eq (x := .int k) (y := .int 21) rfl rfl (eq_int _ _))
  have wl : ∀ l : List D, (∀ d ∈ l, pl 6 d = true ∧ wt d ≤ 10) → l.length ≤ 100 → pl 7 (.lst l) = true ∧ wt (.lst l) ≤ 1000000 := by
    intro l h hl
    refine ⟨pls_iff.mpr fun d hd => (h d hd).1, ?_⟩
    have : ∀ l : List D, (∀ d ∈ l, wt d ≤ 10) → wts l ≤ 10 * l.length := by
      intro l
      induction l with
      | nil => intro _; exact Nat.le_refl _
      | cons d l ih =>
        intro h
        have := ih fun x hx => h x (List.mem_cons_of_mem _ hx)
        have := h d (List.mem_cons_self ..)
        simp only [wts, List.length_cons]
        omega
    have := this l fun d hd => (h d hd).2
    simp only [wt]
    omega
  have b1 : ∀ b : Bool, pl 6 (.bl b) = true ∧ wt (.bl b) ≤ 10 := fun b => ⟨rfl, Nat.le_of_ble_eq_true rfl⟩
  have kk : pl 7 (.lst (kindsL k)) = true ∧ wt (.lst (kindsL k)) ≤ 1000000 := by
    refine wl _ (fun d hd => ?_) (by unfold kindsL; simp)
    unfold kindsL at hd
    rcases List.mem_append.mp hd with hd | hd
    · rcases List.mem_append.mp hd with hd | hd
      · rw [List.mem_singleton.mp hd]; exact b1 _
      · obtain ⟨j, _, rfl⟩ := List.mem_map.mp hd
        exact b1 _
    · rw [List.mem_singleton.mp hd]; exact b1 _
  have q8 : ∀ o8 o9, (fBin addD (fBin addD (fLst (lCons (fOr (fCmp (op pLt) (evVar 7) (fC (.int 7))) (fCmp (eqD) (evVar 7) (fC (.int 21)))) lNil)) (lcF (.nm 10) none (fCmp (eqD) (evVar 10) (evVar 7)) (iRng1 (fC (.int 21))) [10])) (fLst (lCons (fC (.bl true)) lNil))) (E7 ns dr W n t u V (some (.int (k : Int))) o8 o9) = some (.ok (.lst (kindsL k))) := by
    intro o8 o9
    unfold kindsL
    refine bin_eq (x := .lst ([.bl (decide ((k : Int) < 7) || decide ((k : Int) = 21))] ++ ((List.range 21).map fun j : Nat => D.bl (decide ((j : Int) = (k : Int)))))) (y := .lst [.bl true]) (bin_eq (x := .lst [.bl (decide ((k : Int) < 7) || decide ((k : Int) = 21))]) (y := .lst ((List.range 21).map fun j : Nat => D.bl (decide ((j : Int) = (k : Int))))) (lst_eq (cons_eq (vc _ _) rfl)) ?_ (add_ll (by simp))) rfl (add_ll (by simp))
    refine lc_map (enc := fun j : Nat => D.int (j : Int)) (fun j : Nat => D.bl (decide ((j : Int) = (k : Int)))) (List.range 21) ?_ (by decide) fun j _ => ⟨_, rfl, cmp_eq (x := .int (j : Int)) (y := .int (k : Int)) rfl rfl (eq_int _ _)⟩
    simp only [Ev.iRng1, fC, bndI, rngF1]
    rw [show (21 : Int) = ((21 : Nat) : Int) from rfl, rngOk0 (by omega)]
    rfl
  rw [seq_nx (δ' := E7 ns dr W n t u V (some (.int (k : Int))) (some (.lst (kindsL k))) o9) (by exact set_eq (q8 _ _))]
  rw [seq_nx (ifn (call_eq (cons_eq (call_eq (cons_eq (d := .int (k : Int)) rfl (cons_eq (vi _ _) (cons_eq (d := .int u) rfl rfl))) (kinds_eq k hk y (.int u))) (cons_eq (d := .lst (kindsL k)) rfl rfl)) (same_eq _ kk.1 kk.2)))]
  by_cases hc : k < 7 ∨ k = 21
  · have hb : (decide ((k : Int) < 7) || decide ((k : Int) = 21)) = true := by
      rw [Bool.or_eq_true, decide_eq_true_iff, decide_eq_true_iff]
      omega
    have w1 := wl [y] (fun d hd => by rw [List.mem_singleton.mp hd]; exact ⟨p1, p2⟩) (by simp)
    refine ⟨some (.lst (kindsL k)), o9, seq1 ?_⟩
    rw [sif_t ((vc _ _).trans (by rw [hb]))]
    exact seq1 (ifn (call_eq (cons_eq (call_eq (cons_eq (d := .int (k : Int)) rfl (cons_eq (vi _ _) rfl)) (line_eq k hc y)) (cons_eq (lst_eq (cons_eq (vi _ _) rfl)) rfl)) (same_eq _ w1.1 w1.2)))
  · have hb : (decide ((k : Int) < 7) || decide ((k : Int) = 21)) = false := by
      rw [Bool.or_eq_false_iff, decide_eq_false_iff_not, decide_eq_false_iff_not]
      omega
    have w1 := wl (aK k y (.int u)) (fun d hd => by
      unfold aK at hd
      split at hd
      · cases hd
      · split at hd
        · simp only [List.mem_cons, List.not_mem_nil, or_false] at hd
          rcases hd with rfl | rfl
          · exact ⟨p1, p2⟩
          · exact ⟨rfl, Nat.le_of_ble_eq_true rfl⟩
        · rw [List.mem_singleton.mp hd]; exact ⟨p1, p2⟩) (by
      unfold aK
      split
      · simp
      · split <;> simp)
    refine ⟨some (.lst (kindsL k)), some (.lst (aK k y (.int u))), seq1 ?_⟩
    have vf := (vc (some (.lst (kindsL k))) o9).trans (by rw [hb] : _ = some (Ev.R.ok (D.bl false)))
    rw [sif_ff vf]
    rw [seq_nx (δ' := E7 ns dr W n t u V (some (.int (k : Int))) (some (.lst (kindsL k))) (some (.lst [y]))) (by exact set_eq (lst_eq (cons_eq (vi _ _) rfl)))]
    have v13 : ∀ (o8 o9 : Option D) (j : Int), fCmp (eqD) (evVar 7) (fC (.int j)) (E7 ns dr W n t u V (some (.int (k : Int))) o8 o9) = some (.ok (.bl (decide ((k : Int) = j)))) := fun o8 o9 j => cmp_eq (x := .int k) (y := .int j) rfl rfl (eq_int _ _)
    obtain ⟨m9, e9⟩ : ∃ m9 : List D, m9 = if k = 13 then [y, .int u] else [y] := ⟨_, rfl⟩
    rw [seq_nx (δ' := E7 ns dr W n t u V (some (.int (k : Int))) (some (.lst (kindsL k))) (some (.lst m9))) (by
      by_cases h13 : k = 13
      · rw [if_pos h13] at e9
        show sIf _ _ _ _ = _
        rw [sif_t ((v13 _ _ 13).trans (by rw [decide_eq_true (by omega)]))]
        rw [e9]
        exact seq1 (set_eq (lst_eq (cons_eq (vi _ _) (cons_eq rfl rfl))))
      · rw [if_neg h13] at e9
        rw [e9]
        exact sif_nx ((v13 _ _ 13).trans (by rw [decide_eq_false (by omega)])) rfl)]
    rw [seq_nx (δ' := E7 ns dr W n t u V (some (.int (k : Int))) (some (.lst (kindsL k))) (some (.lst (aK k y (.int u))))) (by
      have vo := or_eq (v13 (some (.lst (kindsL k))) (some (.lst m9)) 9) (v13 (some (.lst (kindsL k))) (some (.lst m9)) 18)
      by_cases h9 : k = 9 ∨ k = 18
      · rw [sif_t (vo.trans (by
          have : (decide ((k : Int) = 9) || decide ((k : Int) = 18)) = true := by
            rw [Bool.or_eq_true, decide_eq_true_iff, decide_eq_true_iff]
            omega
          rw [this]))]
        unfold aK
        rw [if_pos h9]
        rfl
      · have ea : aK k y (.int u) = m9 := by
          unfold aK
          rw [if_neg h9, e9]
        rw [ea]
        exact sif_nx (vo.trans (by
          have : (decide ((k : Int) = 9) || decide ((k : Int) = 18)) = false := by
            rw [Bool.or_eq_false_iff, decide_eq_false_iff_not, decide_eq_false_iff_not]
            omega
          rw [this])) rfl)]
    exact seq1 (ifn (call_eq (cons_eq (call_eq (cons_eq (d := .int (k : Int)) rfl (cons_eq (vi _ _) (cons_eq (d := .int u) rfl rfl))) (fields_eq k hc hk y (.int u))) (cons_eq (d := .lst (aK k y (.int u))) rfl rfl)) (same_eq _ w1.1 w1.2)))
theorem law_true (ns : List Int) : φ_law [.lck ns] = some (.ok (.bl true)) := by
  obtain ⟨dr, hd, hp, en⟩ := numbers ns 0 5 (by omega) (by omega)
  have en : φ_law_numbers [.lck ns, .int 0, .int 5] = some (.ok (nd dr)) := en
  obtain ⟨W, ew, N, _⟩ := names_eq dr[1] dr[2]
  have hWl := N.l
  have dI : ∀ (k : Nat) (hk : k < dr.length) (δ : Ev.Env), δ[1]? = some (some (nd dr)) → fIx (evVar 1) (fC (.int (k : Int))) δ = some (.ok (.int dr[k])) := fun k hk δ h => by
    refine ix_eq (x := nd dr) (y := .int (k : Int)) (by simp only [evVar, h]) rfl ?_
    show atI (dr.map D.int) (k : Int) = _
    rw [atI_lit, List.getElem?_map, List.getElem?_eq_getElem hk]
    rfl
  have wI : ∀ (k : Nat) (hk : k < W.length) (δ : Ev.Env), δ[3]? = some (some (stL W)) → fIx (evVar 3) (fC (.int (k : Int))) δ = some (.ok (.str W[k])) := fun k hk δ h => by
    refine ix_eq (x := stL W) (y := .int (k : Int)) (by simp only [evVar, h]) rfl ?_
    show atI (W.map D.str) (k : Int) = _
    rw [atI_lit, List.getElem?_map, List.getElem?_eq_getElem hk]
    rfl
  have mI : ∀ (k : Nat) (j : Int) (hk : k < dr.length) (δ : Ev.Env), 0 < j → δ[1]? = some (some (nd dr)) → fBin modD (fBi intD (lCons (fIx (evVar 1) (fC (.int (k : Int)))) lNil)) (fC (.int j)) δ = some (.ok (.int (dr[k] % j))) := fun k j hk δ hj h => bin_eq (x := .int dr[k]) (y := .int j) (bi1_eq (dI k hk δ h) rfl) rfl (mod_int _ hj)
  unfold φ_law defF
  rw [show startE 11 [D.lck ns] = [some (.lck ns), none, none, none, none, none, none, none, none, none, none] from rfl]
  unfold g_law
  rw [seq_nx (δ' := [some (.lck ns), some (nd dr), none, none, none, none, none, none, none, none, none]) (by exact set_eq (call_eq (cons_eq rfl (cons_eq rfl (cons_eq rfl rfl))) en))]
  obtain ⟨n, en⟩ : ∃ n : Int, n = 1 + dr[0] % 75 := ⟨_, rfl⟩
  obtain ⟨t, et⟩ : ∃ t : Int, t = dr[3] % 40 := ⟨_, rfl⟩
  obtain ⟨u, eu⟩ : ∃ u : Int, u = dr[4] % 60 := ⟨_, rfl⟩
  rw [seq_nx (δ' := [some (.lck ns), some (nd dr), some (.int n), none, none, none, none, none, none, none, none]) (by rw [en]; exact set_eq (bin_eq (x := .int 1) rfl (mI 0 75 (by omega) _ (by decide) rfl) rfl))]
  rw [seq_nx (δ' := [some (.lck ns), some (nd dr), some (.int n), some (stL W), none, none, none, none, none, none, none]) (by exact set_eq (call_eq (cons_eq (dI 1 (by omega) _ rfl) (cons_eq (dI 2 (by omega) _ rfl) rfl)) ew))]
  rw [seq_nx (δ' := [some (.lck ns), some (nd dr), some (.int n), some (stL W), some (.int t), none, none, none, none, none, none]) (by rw [et]; exact set_eq (mI 3 40 (by omega) _ (by decide) rfl))]
  rw [seq_nx (δ' := [some (.lck ns), some (nd dr), some (.int n), some (stL W), some (.int t), some (.int u), none, none, none, none, none]) (by rw [eu]; exact set_eq (mI 4 60 (by omega) _ (by decide) rfl))]
  obtain ⟨V1, e1⟩ : ∃ V1 : List D, V1 = [.int n, .int n, .int n, .int n, .int n, .int n, .int n, .str W[0], .str W[1], .str "", .tup [.str "acquire", .str W[0]], .int t] := ⟨_, rfl⟩
  obtain ⟨V2, e2⟩ : ∃ V2 : List D, V2 = [.int (0 - t), .str W[0], .int t, .tup [.int t, .int (t + 1)], .tup [.tup [.str W[0], .str W[1]], .str W[2]], .tup [.str W[0], .tup [.str W[1]]], .str ""] := ⟨_, rfl⟩
  obtain ⟨V3, e3⟩ : ∃ V3 : List D, V3 = [.tup [.str W[1], .str W[0]], .tup [.str W[2], .str W[1]], .int n] := ⟨_, rfl⟩
  rw [seq_nx (δ' := E7 ns dr W n t u V1 none none none) (by
    rw [e1]
    exact set_eq (lst_eq (cons_eq rfl (cons_eq rfl (cons_eq rfl (cons_eq rfl (cons_eq rfl (cons_eq rfl (cons_eq rfl (cons_eq (wI 0 (by omega) _ rfl) (cons_eq (wI 1 (by omega) _ rfl) (cons_eq rfl (cons_eq (tup_eq (cons_eq rfl (cons_eq (wI 0 (by omega) _ rfl) rfl))) (cons_eq rfl rfl))))))))))))))]
  rw [seq_nx (δ' := E7 ns dr W n t u (V1 ++ V2) none none none) (by
    refine set_eq (bin_eq (x := .lst V1) (y := .lst V2) rfl ?_ (add_ll (by rw [e1, e2]; simp)))
    rw [e2]
    exact lst_eq (cons_eq (bin_eq (x := .int 0) (y := .int t) rfl rfl rfl) (cons_eq (wI 0 (by omega) _ rfl) (cons_eq rfl (cons_eq (tup_eq (cons_eq rfl (cons_eq (bin_eq (x := .int t) (y := .int 1) rfl rfl rfl) rfl))) (cons_eq (tup_eq (cons_eq (tup_eq (cons_eq (wI 0 (by omega) _ rfl) (cons_eq (wI 1 (by omega) _ rfl) rfl))) (cons_eq (wI 2 (by omega) _ rfl) rfl))) (cons_eq (tup_eq (cons_eq (wI 0 (by omega) _ rfl) (cons_eq (tup_eq (cons_eq (wI 1 (by omega) _ rfl) rfl)) rfl))) (cons_eq rfl rfl))))))))]
  rw [seq_nx (δ' := E7 ns dr W n t u (V1 ++ V2 ++ V3) none none none) (by
    refine set_eq (bin_eq (x := .lst (V1 ++ V2)) (y := .lst V3) rfl ?_ (add_ll (by rw [e1, e2, e3]; simp)))
    rw [e3]
    exact lst_eq (cons_eq (tup_eq (cons_eq (wI 1 (by omega) _ rfl) (cons_eq (wI 0 (by omega) _ rfl) rfl))) (cons_eq (tup_eq (cons_eq (wI 2 (by omega) _ rfl) (cons_eq (wI 1 (by omega) _ rfl) rfl))) (cons_eq rfl rfl))))]
  have hV : (V1 ++ V2 ++ V3).length = 22 := by rw [e1, e2, e3]; rfl
  have hpl : (V1 ++ V2 ++ V3).all (fun d => pl 6 d && decide (wt d ≤ 10)) = true := by rw [e1, e2, e3]; rfl
  obtain ⟨V, eV⟩ : ∃ V, V = V1 ++ V2 ++ V3 := ⟨_, rfl⟩
  rw [← eV] at hV hpl ⊢
  obtain ⟨δ', e, o7, o8, o9, rfl⟩ := forGo_pre (enc := fun k : Nat => D.int (k : Int)) (t := .nm 7) (body := (sSeq (sSet 8 (fBin addD (fBin addD (fLst (lCons (fOr (fCmp (op pLt) (evVar 7) (fC (.int 7))) (fCmp (eqD) (evVar 7) (fC (.int 21)))) lNil)) (lcF (.nm 10) none (fCmp (eqD) (evVar 10) (evVar 7)) (iRng1 (fC (.int 21))) [10])) (fLst (lCons (fC (.bl true)) lNil))))
  (sSeq (sIf (fNot (fCall φ_law_same (lCons (fCall φ_law_kinds (lCons (evVar 7) (lCons (fIx (evVar 6) (evVar 7)) (lCons (evVar 5) lNil)))) (lCons (evVar 8) lNil)))) (sSeq (sRet (fC (.bl false)))
  sNx) sNx)
  (sSeq (sIf (fOr (fCmp (op pLt) (evVar 7) (fC (.int 7))) (fCmp (eqD) (evVar 7) (fC (.int 21)))) (sSeq (sIf (fNot (fCall φ_law_same (lCons (fCall φ_law_line_field (lCons (evVar 7) (lCons (fIx (evVar 6) (evVar 7)) lNil))) (lCons (fLst (lCons (fIx (evVar 6) (evVar 7)) lNil)) lNil)))) (sSeq (sRet (fC (.bl false)))
  sNx) sNx)
  sNx) (sSeq (sSet 9 (fLst (lCons (fIx (evVar 6) (evVar 7)) lNil)))
  (sSeq (sIf (fCmp (eqD) (evVar 7) (fC (.int 13))) (sSeq (sSet 9 (fLst (lCons (fIx (evVar 6) (evVar 7)) (lCons (evVar 5) lNil))))
  sNx) sNx)
  (sSeq (sIf (fOr (fCmp (eqD) (evVar 7) (fC (.int 9))) (fCmp (eqD) (evVar 7) (fC (.int 18)))) (sSeq (sSet 9 (fLst lNil))
  sNx) sNx)
  (sSeq (sIf (fNot (fCall φ_law_same (lCons (fCall φ_law_fields (lCons (evVar 7) (lCons (fIx (evVar 6) (evVar 7)) (lCons (evVar 5) lNil)))) (lCons (evVar 9) lNil)))) (sSeq (sRet (fC (.bl false)))
  sNx) sNx)
  sNx)))))
  sNx)))) (fun _ δ => ∃ o7 o8 o9, δ = E7 ns dr W n t u V o7 o8 o9) (List.range 22) (E7 ns dr W n t u V none none none) ⟨none, none, none, rfl⟩ (by
    rintro dn r q δ eq ⟨o7, o8, o9, rfl⟩
    have hr : r < 22 := List.mem_range.mp (by rw [eq]; simp)
    obtain ⟨o8', o9', h⟩ := turn ns dr W n t u hV hpl hr o8 o9
    exact ⟨_, _, rfl, h, some (.int (r : Int)), o8', o9', rfl⟩)
  rw [seq_nx (δ' := E7 ns dr W n t u V o7 o8 o9) (by
    have : Ev.iRng1 (fC (.int 22)) (E7 ns dr W n t u V none none none) = some (.ok ((List.range 22).map fun k : Nat => D.int (k : Int))) := by
      simp only [Ev.iRng1, fC, bndI, rngF1]
      rw [show (22 : Int) = ((22 : Nat) : Int) from rfl, rngOk0 (by omega)]
      rfl
    unfold sFor
    rw [this]
    exact e)]
  rfl
end Q

set_option maxHeartbeats 0
open PySem PySem.W PySem.Calls PyProof.Rows
theorem PySem.Challenge.cw_heldcalls_k76_error_classes_holds : PySem.Challenge.rw_heldcalls_k76_error_classes.Holds := by
  w_on; o_law
  refine HandSHeadRun.head_any (r := OpenLaw.row PySem.Challenge.rw_heldcalls_k76_error_classes) (q := view (OpenLaw.row PySem.Challenge.rw_heldcalls_k76_error_classes).prog [33]) (H := Z.hk) (ob := Z.ob) (M := 12000) (loose := Z.loose) (d := HandSHeadRun.topDef (OpenLaw.row PySem.Challenge.rw_heldcalls_k76_error_classes).prog 33) (kwd := []) Z.ob_eq
    (by kernel_rfl) (fun s => by kernel_rfl) Z.run (by kernel_rfl) (by kernel_rfl) (by kernel_rfl) (by rfl) (by first | assumption | decide +kernel) (by decide +kernel) ⟨rfl, rfl, rfl, rfl, rfl, by decide +kernel⟩ ?hw ?hc
  case hw => w_witness2
  case hc =>
    refine Ev.walk_ofW (l := PySem.Challenge.rw_heldcalls_k76_error_classes) (n := 63) (k := 5) (x := "script") rfl (by decide) (by kernel_rfl) ⟨rfl, by decide, by decide⟩ ?F
    intro w mg fa h Y G hmg0
    obtain ⟨K, KX, c⟩ := Y
    have hmg : mg ("law" : PySem.Str) = some (.ref fa) := by
      have e : (HandSHeadRun.topDef (OpenLaw.row PySem.Challenge.rw_heldcalls_k76_error_classes).prog 33).name = ("law" : PySem.Str) := by kernel_rfl
      rw [← e]
      exact hmg0
    obtain ⟨fd, hb, hF⟩ := Z.facts (P := (PySem.Challenge.rw_heldcalls_k76_error_classes).prog) (w := w) KX G hmg c (by rfl) (by kernel_rfl)
    exact ⟨K, fd, _, KX, hb, fun H a ns hl hS => Ev.law_end hS (Q.law_true ns), hF⟩

