import PyProof.Rows.All
import Wide.All
import OpenK.AllK
import Wide.FinOn
import HandS.ForMost
import HandS.HeadHook1
import HandS.Exc
import KE.KDictCopyH
import HandS.Defaults
import HandS.TupAny
import HandS.IsInst
import HandS.Wide
import HandS.Style
import HandS.TupLen
import HandS.RevRange
import HandS.Deep
import HandS.RaiseMore
import HandS.Conv
import HandS.More
import HandS.Walk
import HandS.Rev
import HandS.Zip
import HandS.NoneIn
import HandS.SortInts
import KE.KStateDown
import HandS.HeadHook2
import HandS.Head0
import HandS.Head1
import HandS.Head2
import HandS.HeadEnd
import HandS.Words
import KE.GoesMore
import KE.GoesEnum
import HandS.Iter
import HandS.Text
import KE.OsArith
import HandS.TryOnly
import HandS.List
import HandS.Replace
import HandS.Set
import KE.KDictDisplayH
import HandS.Head3
import HandS.HeadHook3
import HandS.SetFor
import HandS.SetKeys
import PyProof.P3In
import PyProof.Rows.InDataRows
import PyProof.ListMulRoad
import PyProof.FactsAll.tuple_2
import HandS.TupMul
import HandS.Dict
import HandS.TupSets
import PyProof.StrBlock2
import PyProof.Rows.StrMul
import HandS.RevTup
import PyProof.ListRange
import PyProof.WalksS
import PyProof.WalkInts
import PyProof.ConsumeS
import HandS.SortKw
import OpenK.KMake
import HandS.Call
import HandS.Codes
import HandS.New0
import PyProof.SliceList
import KE.KDictPairs
import KE.KEqDict
import HandS.DictEq
import HandS.DictComp
import HandS.Sort
import KE.GoesZip
import KE.SortData
import KE.SortCalls
import HandS.ExcInit
import HandS.ExcField
import HandS.CallSlots
import HandS.ExcIs
import KE.KExcIs
import PySem.Challenge.RW_dimhouse_k14_programs_in_order
set_option Elab.async false
set_option linter.all false
set_option maxRecDepth 100000
set_option maxHeartbeats 0
namespace Dn
open PySem L2

end Dn

namespace Dn
open PySem L2


end Dn

namespace Dn
open PySem PySem.Spec PyProof.Rows L2


end Dn

namespace Dn
open PySem PySem.Spec PyProof.Rows L2

end Dn

namespace Dn
open PySem PySem.Spec PyProof.Rows L2


end Dn

namespace Dn
open PySem PySem.Spec PyProof.Rows L2

end Dn

namespace Dn
open PySem PySem.Spec PyProof.Rows L2


end Dn

namespace Dn
open PySem PySem.Spec PyProof.Rows L2

end Dn

namespace Dn
open PySem PySem.Spec PyProof.Rows L2


end Dn

namespace Dn
open PySem PySem.Spec PyProof.Rows L2

section
def frees : List He.Fa := [.free "len", .free "isinstance", .free "range", .free "enumerate", .free "list", .free "tuple", .free "str", .free "int", .free "max", .free "min", .free "sum", .free "any", .free "all", .free "sorted", .free "set", .free "reversed", .free "bool", .free "dict", .free "zip", .free "ValueError"]
end
abbrev AlX : Type := He.AlD × Bool
def obsX (n : Nat) (fa : List He.Fa) (fn : List He.DefD) (ex : PySem.W.Frag → Bool) (g : Addr → Option Obj) : AlX := (He.obsD fa fn (He.frG g (He.asD g n)), ex (He.frG g (He.asD g n)))
def hookX (n : Nat) (fa : List He.Fa) (fn : List He.DefD) (ex : PySem.W.Frag → Bool) : PySem.W.Hook where
  α := AlX
  obs := fun s => obsX n fa fn ex s.heap.get?
  val := fun _ => (He.valD fn, true)
  says := fun _ h => ∃ K : PySem.W.Frag, K.In h ∧ He.SaysD fa fn K ∧ ex K = true
  of := fun _ _ e => ⟨_, He.frG_in, congrArg Prod.fst e, congrArg Prod.snd e⟩
  keeps := fun _ _ _ ⟨K, hK, c⟩ k => ⟨K, PySem.W.Frag.In.keeps hK k, c⟩
theorem obsX_eq {n : Nat} {fa : List He.Fa} {fn : List He.DefD} {ex : PySem.W.Frag → Bool} {g : Addr → Option Obj} {s : Shared} (h : ∀ a, g a = s.heap.get? a) : obsX n fa fn ex g = (hookX n fa fn ex).obs s := by
  have e : g = s.heap.get? := funext h
  rw [e] <;> rfl
end Dn

namespace Dn
open PySem PySem.Spec PyProof.Rows L2


end Dn

namespace Dn
open PySem PySem.Spec PyProof.Rows L2
end Dn

namespace Dn
open PySem PySem.Spec PyProof.Rows L2

end Dn

namespace Dn
open PySem PySem.Spec PyProof.Rows L2
end Dn

namespace Dn
open PySem PySem.Spec PyProof.Rows L2
/-- the classes' attributes that instances may have -/
abbrev ATab := List (Str × Str)

def atB (K : PySem.W.Frag) (T : ATab) : Bool := T.all fun p => (He.Fa.cls p.1).ok K && (He.Fa.noat p.1 p.2).ok K
end Dn

namespace Dn
open PySem PySem.Spec PyProof.Rows L2
end Dn

namespace Dn
open PySem PySem.Spec PyProof.Rows L2
end Dn

namespace Dn
open PySem PySem.Spec PyProof.Rows L2
end Dn

namespace Dn
open PySem PySem.Spec PyProof.Rows L2
end Dn

namespace Dn
open PySem PySem.Spec PyProof.Rows L2
end Dn

namespace Dn
open PySem PySem.Spec PyProof.Rows L2
end Dn

namespace Dn
open PySem PySem.Spec PyProof.Rows L2
end Dn

namespace Dn
open PySem PySem.Spec PyProof.Rows L2


end Dn

namespace Dn
open PySem PySem.Spec PyProof.Rows L2

end Dn

namespace Dn
open PySem PySem.Spec PyProof.Rows L2

end Dn

namespace Dn
open PySem PySem.Spec PyProof.Rows L2
end Dn

namespace Dn
open PySem PySem.Spec PyProof.Rows L2
end Dn

namespace Dn
open PySem PySem.Spec PyProof.Rows L2
end Dn

namespace Dn
open PySem PySem.Spec PyProof.Rows L2
end Dn

namespace Dn
open PySem PySem.Spec PyProof.Rows L2


end Dn

namespace Dn
open PySem PySem.Spec PyProof.Rows L2
end Dn

namespace Dn
open PySem PySem.Spec PyProof.Rows L2
end Dn

namespace Dn
open PySem PySem.Spec PyProof.Rows L2
end Dn

namespace Dn
open PySem PySem.Spec PyProof.Rows L2
end Dn

namespace Dn
open PySem PySem.Spec PyProof.Rows L2
end Dn

namespace Dn
open PySem PySem.Spec PyProof.Rows L2
end Dn

namespace RT
open PySem PySem.Spec PyProof.Rows
end RT
namespace Dn
open PySem PySem.Spec PyProof.Rows L2 RT
end Dn

namespace Dn
open PySem PySem.Spec PyProof.Rows L2
end Dn

namespace Dn
open PySem PySem.Spec PyProof.Rows L2
end Dn

namespace Dn
open PySem PySem.Spec PyProof.Rows L2
end Dn

namespace Dn
open PySem PySem.Spec PyProof.Rows L2
end Dn

namespace Dn
open PySem PySem.Spec PyProof.Rows L2
end Dn

namespace Dn
open PySem PySem.Spec PyProof.Rows L2
end Dn

namespace Dn
open PySem PySem.Spec PyProof.Rows L2
end Dn

namespace Dn
open PySem PySem.Spec PyProof.Rows L2
end Dn

namespace Dn
open PySem PySem.Spec PyProof.Rows L2
end Dn

namespace Dn
open PySem PySem.Spec PyProof.Rows L2
end Dn

namespace Dn
open PySem PySem.Spec PyProof.Rows L2
end Dn

namespace Dn
open PySem PySem.Spec PyProof.Rows L2
end Dn

namespace Dn
open PySem PySem.Spec PyProof.Rows L2
end Dn

namespace Dn
open PySem PySem.Spec PyProof.Rows L2
end Dn

namespace Dn
open PySem PySem.Spec PyProof.Rows L2
end Dn

namespace Dn
open PySem PySem.Spec PyProof.Rows L2
end Dn

namespace Dn
open PySem PySem.Spec PyProof.Rows L2
end Dn

namespace Dn
open PySem PySem.Spec PyProof.Rows L2
end Dn

namespace Dn
open PySem PySem.Spec PyProof.Rows L2
end Dn

namespace Dn
open PySem PySem.Spec PyProof.Rows L2
end Dn

namespace Dn
open PySem PySem.Spec PyProof.Rows L2
end Dn

namespace Dn
open PySem PySem.Spec PyProof.Rows L2
end Dn

namespace Dn
open PySem PySem.Spec PyProof.Rows L2
end Dn

namespace Dn
open PySem PySem.Spec PyProof.Rows L2
end Dn

namespace Dn
open PySem PySem.Spec PyProof.Rows L2
end Dn

namespace Dn
open PySem PySem.Spec PyProof.Rows L2
end Dn

namespace Dn
open PySem PySem.Spec PyProof.Rows L2
end Dn

namespace Dn
open PySem PySem.Spec PyProof.Rows L2
end Dn

namespace Dn
open PySem PySem.Spec PyProof.Rows L2
end Dn

namespace Dn
open PySem PySem.Spec PyProof.Rows L2
end Dn

namespace Dn
open PySem PySem.Spec PyProof.Rows L2
end Dn

namespace Dn
open PySem PySem.Spec PyProof.Rows L2
end Dn

namespace Dn
open PySem PySem.Spec PyProof.Rows L2
end Dn

namespace Dn
open PySem PySem.Spec PyProof.Rows L2
end Dn

namespace Dn
open PySem PySem.Spec PyProof.Rows L2
end Dn

namespace Dn
open PySem PySem.Spec PyProof.Rows L2
end Dn

namespace Dn
open PySem PySem.Spec PyProof.Rows L2
end Dn

namespace Dn
open PySem PySem.Spec PyProof.Rows L2
end Dn

namespace Dn
open PySem PySem.W PySem.Calls PyProof.Rows
end Dn
namespace L2
open PySem PySem.Spec PyProof.Rows PySem.W
end L2
namespace Dn
open PySem PySem.Spec PyProof.Rows L2 PySem.W
end Dn

namespace Dn
open PySem PySem.Spec PyProof.Rows L2
end Dn

namespace Dn
open PySem PySem.Spec PyProof.Rows L2
end Dn

namespace Dn
open PySem PySem.Spec PyProof.Rows L2
/-- what the head looks up of an exception class C whose __init__ sets the fields ns -/
def excB (K : PySem.W.Frag) (C : Str) (ns : List Str) : Bool :=
  (match K.lookup (He.ga K C) with
  | some ⟨.type "type", _, .cls cd, sl⟩ => (match cd.mro, sl.toList with
    | .ref C' :: bm, [_, _, _, _, some (.builtin n), _] => C' == He.ga K C && (n == "ValueError.__new__" && (!cd.hasDel && (cd.hasDict && PySem.HandSPX.refsVE bm)))
    | _, _ => false)
  | _ => false) &&
  (He.eqO (PySem.W.findIn K (.ref (He.ga K C)) "__setattr__") (some (some (.builtin "object.__setattr__"))) &&
  (decide (PySem.W.subIn K (.ref (He.ga K C)) (.type "BaseException") = some true) &&
  (decide (PySem.W.typeIn K (.ref (He.ga K C)) = some (.type "type")) &&
  (PySem.W.keepIn K (.ref (He.ga K C)) &&
  (He.eqO (PySem.W.findIn K (.ref (He.ga K C)) "__init__") (some (some (.ref (He.ma K (He.ga K C) "__init__")))) &&
  (decide (PySem.W.typeIn K (.ref (He.ma K (He.ga K C) "__init__")) = some (.type "function")) &&
  (He.eqO (PySem.W.findIn K (.ref (He.ga K C)) "__getattribute__") (some (some (.builtin "BaseException.__getattribute__"))) &&
  (He.eqO (PySem.W.findIn K (.ref (He.ga K C)) "__getattr__") (some none) &&
  (PySem.W.hasDictIn K (He.ga K C) &&
  (He.eqO (PySem.W.findIn K (.ref (He.ga K C)) "__class__") (some (some (.builtin "object.__class__"))) &&
  (decide (PySem.W.mroIn K (He.ga K C) (.type "object") = some true) &&
  ns.all fun n => He.eqO (PySem.W.findIn K (.ref (He.ga K C)) n) (some none))))))))))))
section
abbrev XTab := List (Str × List Str)
def xtB (K : PySem.W.Frag) (T : XTab) : Bool := T.all fun t => excB K t.1 t.2
/-- what isinstance answers: class, asked classes (one, or a tuple of them), answer; "ValueError" is the built-in one -/
abbrev XITab := List (Str × List Str × Bool)
def xcv (K : PySem.W.Frag) (D : Str) : Value := if D = "ValueError" then .type "ValueError" else .ref (He.ga K D)
def xiB (K : PySem.W.Frag) (T1 T2 : XITab) : Bool := decide (PySem.W.specialIn K (.builtin "object.__class__") "__get__" = some (some (.builtin "getset_descriptor.__get__"))) && (decide (PySem.W.takesIn K (.builtin "object.__class__") = some true) &&
  ((T1.all fun t => match t.2.1 with
    | [D] => decide (PySem.W.kitOne K (.ref (He.ga K t.1)) (xcv K D) = some t.2.2)
    | _ => false) &&
  T2.all fun t => decide (PySem.W.kitAny K (.ref (He.ga K t.1)) (t.2.1.map fun D => .ref (He.ga K D)) = some t.2.2)))
end
end Dn

namespace Dn
open PySem PySem.Spec PyProof.Rows L2
end Dn

namespace Dn
open PySem PySem.Spec PyProof.Rows L2
def xcB (K : PySem.W.Frag) (cs : List Str) (D : Str) : Bool := cs.all fun C => (He.Fa.exm C D true).ok K
end Dn

namespace Lk14
open PySem PySem.Spec PyProof.Rows L2 Dn
def top (i : Nat) : Stmt := PySem.Challenge.pw_dimhouse_k14_programs_in_order.main.body.getD i (.Pass ⟨0, 0, 0, 0⟩)
abbrev s_BadLine_init : Stmt := inClass (top 2) 0
abbrev s_Twice_init : Stmt := inClass (top 3) 0
abbrev s_NoLabel_init : Stmt := inClass (top 4) 0
abbrev s_Unknown_init : Stmt := inClass (top 5) 0
abbrev s_Falls_init : Stmt := inClass (top 6) 0
abbrev s_worked_on : Stmt := top 8
abbrev s_leads : Stmt := top 9
abbrev s_look : Stmt := top 10
abbrev s_law_cell : Stmt := top 12
abbrev s_law_part : Stmt := top 13
abbrev s_law_name : Stmt := top 14
abbrev s_law_row : Stmt := top 15
abbrev s_law_spoilt : Stmt := top 16
abbrev s_law_word : Stmt := top 17
abbrev s_law_due : Stmt := top 18
abbrev s_law_whole : Stmt := top 19
abbrev s_law_told : Stmt := top 20
abbrev s_law_made : Stmt := top 21
abbrev s_law : Stmt := top 22
def AT : ATab := []
def XT : XTab := [("BadLine", ["at"]), ("Twice", ["word"]), ("NoLabel", ["word"]), ("Unknown", ["word", "row"]), ("Falls", ["row"])]
def XJ1 : XITab := [("BadLine", ["ValueError"], true), ("Twice", ["ValueError"], true), ("NoLabel", ["ValueError"], true), ("Unknown", ["ValueError"], true), ("Falls", ["ValueError"], true), ("BadLine", ["Unknown"], false), ("Twice", ["Unknown"], false), ("NoLabel", ["Unknown"], false), ("Unknown", ["Unknown"], true), ("Falls", ["Unknown"], false), ("BadLine", ["Falls"], false), ("Twice", ["Falls"], false), ("NoLabel", ["Falls"], false), ("Unknown", ["Falls"], false), ("Falls", ["Falls"], true), ("BadLine", ["DimError"], true), ("Twice", ["DimError"], true), ("NoLabel", ["DimError"], true), ("Unknown", ["DimError"], true), ("Falls", ["DimError"], true)]
def XJ2 : XITab := [("BadLine", ["BadLine", "Twice", "NoLabel"], true), ("Twice", ["BadLine", "Twice", "NoLabel"], true), ("NoLabel", ["BadLine", "Twice", "NoLabel"], true), ("Unknown", ["BadLine", "Twice", "NoLabel"], false), ("Falls", ["BadLine", "Twice", "NoLabel"], false)]
def XC_DimError : List Str := ["BadLine", "Twice", "NoLabel", "Unknown", "Falls"]
def d_BadLine_init : He.DefD := ⟨("BadLine", some "__init__"), "__init__", "BadLine.__init__", defArgs s_BadLine_init, defBody s_BadLine_init, defScope s_BadLine_init, [], []⟩
def d_Twice_init : He.DefD := ⟨("Twice", some "__init__"), "__init__", "Twice.__init__", defArgs s_Twice_init, defBody s_Twice_init, defScope s_Twice_init, [], []⟩
def d_NoLabel_init : He.DefD := ⟨("NoLabel", some "__init__"), "__init__", "NoLabel.__init__", defArgs s_NoLabel_init, defBody s_NoLabel_init, defScope s_NoLabel_init, [], []⟩
def d_Unknown_init : He.DefD := ⟨("Unknown", some "__init__"), "__init__", "Unknown.__init__", defArgs s_Unknown_init, defBody s_Unknown_init, defScope s_Unknown_init, [], []⟩
def d_Falls_init : He.DefD := ⟨("Falls", some "__init__"), "__init__", "Falls.__init__", defArgs s_Falls_init, defBody s_Falls_init, defScope s_Falls_init, [], []⟩
def d_worked_on : He.DefD := ⟨("worked_on", none), "worked_on", "worked_on", defArgs s_worked_on, defBody s_worked_on, defScope s_worked_on, [], []⟩
def d_leads : He.DefD := ⟨("leads", none), "leads", "leads", defArgs s_leads, defBody s_leads, defScope s_leads, [], []⟩
def d_look : He.DefD := ⟨("look", none), "look", "look", defArgs s_look, defBody s_look, defScope s_look, [], []⟩
def d_law_cell : He.DefD := ⟨("_law_cell", none), "_law_cell", "_law_cell", defArgs s_law_cell, defBody s_law_cell, defScope s_law_cell, [], []⟩
def d_law_part : He.DefD := ⟨("_law_part", none), "_law_part", "_law_part", defArgs s_law_part, defBody s_law_part, defScope s_law_part, [], []⟩
def d_law_name : He.DefD := ⟨("_law_name", none), "_law_name", "_law_name", defArgs s_law_name, defBody s_law_name, defScope s_law_name, [], []⟩
def d_law_row : He.DefD := ⟨("_law_row", none), "_law_row", "_law_row", defArgs s_law_row, defBody s_law_row, defScope s_law_row, [], []⟩
def d_law_spoilt : He.DefD := ⟨("_law_spoilt", none), "_law_spoilt", "_law_spoilt", defArgs s_law_spoilt, defBody s_law_spoilt, defScope s_law_spoilt, [], []⟩
def d_law_word : He.DefD := ⟨("_law_word", none), "_law_word", "_law_word", defArgs s_law_word, defBody s_law_word, defScope s_law_word, [], []⟩
def d_law_due : He.DefD := ⟨("_law_due", none), "_law_due", "_law_due", defArgs s_law_due, defBody s_law_due, defScope s_law_due, [], []⟩
def d_law_whole : He.DefD := ⟨("_law_whole", none), "_law_whole", "_law_whole", defArgs s_law_whole, defBody s_law_whole, defScope s_law_whole, [], []⟩
def d_law_told : He.DefD := ⟨("_law_told", none), "_law_told", "_law_told", defArgs s_law_told, defBody s_law_told, defScope s_law_told, [], []⟩
def d_law_made : He.DefD := ⟨("_law_made", none), "_law_made", "_law_made", defArgs s_law_made, defBody s_law_made, defScope s_law_made, [], []⟩
def d_law : He.DefD := ⟨("law", none), "law", "law", defArgs s_law, defBody s_law, defScope s_law, [], []⟩
def fn0 : List He.DefD := [d_BadLine_init, d_Twice_init, d_NoLabel_init, d_Unknown_init, d_Falls_init, d_worked_on, d_leads, d_look, d_law_cell, d_law_part, d_law_name, d_law_row, d_law_spoilt, d_law_word, d_law_due, d_law_whole, d_law_told, d_law_made, d_law]
def fn : List He.DefD := fn0
def fac0 : List He.Fa := [.glo "worked_on", .glo "leads", .glo "look", .glo "_law_cell", .glo "_law_part", .glo "_law_name", .glo "_law_row", .glo "_law_spoilt", .glo "_law_word", .glo "_law_due", .glo "_law_whole", .glo "_law_told", .glo "_law_made", .glo "law", .glo "DimError", .glo "BadLine", .glo "Twice", .glo "NoLabel", .glo "Unknown", .glo "Falls"]
def fac : List He.Fa := fac0
def fa : List He.Fa := fac ++ frees
def ex (K : PySem.W.Frag) : Bool := atB K AT && xtB K XT && xiB K XJ1 XJ2 && xcB K XC_DimError "DimError"
end Lk14

namespace Lk14
open PySem PySem.Spec PyProof.Rows L2 Dn
/-! ### the head -/
abbrev R : PySem.W.OpenRow := PySem.W.OpenLaw.row PySem.Challenge.rw_dimhouse_k14_programs_in_order
abbrev hk : PySem.W.Hook := hookX 4 fa fn ex
def ob (s : PySem.W.SharedT) : AlX := obsX 4 fa fn ex (HandSHeadRun.getT s)
theorem ob_eq (s : PySem.W.SharedT) : ob s = hk.obs s.abs := obsX_eq (HandSHeadRun.getT_eq s)
def lo0 : List Str := ["worked_on", "leads", "look", "_law_cell", "_law_part", "_law_name", "_law_row", "_law_spoilt", "_law_word", "_law_due", "_law_whole", "_law_told", "_law_made", "DimError", "BadLine", "Twice", "NoLabel", "Unknown", "Falls"]
def loose : List Str := lo0
theorem run (w : World) : HandSHeadRun.RunEq R (PySem.W.view R.prog [22]) hk ob 20000 loose w := by
  intro os
  kernel_rfl
end Lk14

/-! A denotation layer over the hand layer: data values, a store of cells, and one rule for each construct. -/
namespace Dn
open PySem L2

/-! ### values -/
inductive LK where
  | own | bor | ext
  deriving DecidableEq
inductive DV where
  | non | bl (b : Bool) | int (i : Int) | str (s : Str)
  | tup (xs : List DV)
  | tupx (xs : List DV)
  | lst (k : LK) (xs : List DV)
  | dik (k : LK) (ks : List Key) (vs : List DV)
  | dit (k : LK) (ks : List (List Key)) (vs : List DV)
  | exc (C : Str) (ns : List Str) (vs : List DV)
  | loc (n : Nat)
/-- a cell of the store -/
inductive Cell where
  | lst (xs : List DV)
  | dik (ks : List Key) (vs : List DV)
  | dit (ks : List (List Key)) (vs : List DV)
  | ins (C : Str) (fs : List (Str × DV))
  | frz (d : DV)
  | lok (ks : List Key) (vs : List DV)
  | lokt (ks : List (List Key)) (vs : List DV)
  | dlf (ks : List (Int × Bool)) (vs : List DV)
  | gone
abbrev Sto := List Cell
def Cell.live : Cell → Bool
  | .frz _ => false
  | .lok _ _ => false
  | .lokt _ _ => false
  | .gone => false
  | _ => true
/-- where data lies: frozen objects G, borrowed ones B, the cells' addresses -/
structure Fm where
  K : PySem.W.Frag
  G : Hp
  B : Hp
  /-- protected: it stays, but no data leans on it -/
  P : Hp
  lm : List Addr
def Fm.free (F : Fm) (a : Addr) : Prop := F.B a = none ∧ F.P a = none

/-- a tuple whose object is known, without a dict of its own -/
def SqN (K : PySem.W.Frag) (H : Hp) (a : Addr) (xs : List V) : Prop :=
  ∃ (o : PySem.Obj) (its : Array PySem.Value) (n : Nat), (H a = some (.frz o (.tup xs)) ∨ (K.lookup a = some o ∧ its.size ≤ PySem.sizeLine)) ∧ o.cls = .type "tuple" ∧ o.dict = none ∧ o.data = .seq its n ∧ Vals xs its.toList
theorem SqN.t {K : PySem.W.Frag} {H : Hp} {a : Addr} {xs : List V} (h : SqN K H a xs) : SqT K H a xs := by
  obtain ⟨o, its, n, h | ⟨h, hz⟩, h1, h2, h3, h4⟩ := h
  · exact .inl (.inr ⟨o, h⟩)
  · exact .inr ⟨o, its, n, h, h1, h3, hz, h4⟩
theorem sqN_same {K : PySem.W.Frag} {H H' : Hp} {a : Addr} {xs : List V} (e : Same H H') (h : SqN K H a xs) : SqN K H' a xs := by
  obtain ⟨o, its, n, h | h, r⟩ := h
  · exact ⟨o, its, n, .inl (e _ _ h), r⟩
  · exact ⟨o, its, n, .inr h, r⟩

/-- a caught exception: its class, its own dict -/
def xcp (cls : PySem.Value) (d a : Addr) : HO := .ext fun h => ∃ (oe : PySem.Obj) (vs : Array PySem.Value), h.get? a = some oe ∧ Zc cls (some d) oe ∧ oe.data = .fields vs

mutual
def Rel (F : Fm) : DV → V → Prop
  | .non, v => v = .non
  | .bl b, v => v = .bl b
  | .int i, v => v = .int i
  | .str s, v => v = .str s
  | .tup ds, v => ∃ a xs, v = .ref a ∧ F.G a = some (.tup xs) ∧ RelL F ds xs
  | .tupx ds, v => ∃ a xs, v = .ref a ∧ SqN F.K F.G a xs ∧ RelL F ds xs
  | .lst .own ds, v => ∃ a xs, v = .ref a ∧ F.G a = some (.lst xs) ∧ RelL F ds xs
  | .lst .bor ds, v => ∃ a xs, v = .ref a ∧ (F.B a = some (.lst xs) ∨ F.G a = some (.lst xs)) ∧ RelL F ds xs
  | .lst .ext ds, v => ∃ a xs, v = .ref a ∧ SqL F.K F.G a xs ∧ RelL F ds xs
  | .dik k ks ds, v => ∃ a xs, v = .ref a ∧ ks.length = ds.length ∧ (F.G a = some (.dK (ks.zip xs)) ∨ (k ≠ .own ∧ F.B a = some (.dK (ks.zip xs)))) ∧ RelL F ds xs
  | .dit k ks ds, v => ∃ a xs, v = .ref a ∧ ks.length = ds.length ∧ (F.G a = some (.dT (ks.zip xs)) ∨ (k ≠ .own ∧ F.B a = some (.dT (ks.zip xs)))) ∧ RelL F ds xs
  | .exc C ns ds, v => ∃ a d xs, v = .ref a ∧ ns.length = ds.length ∧ F.G a = some (xcp (.ref (He.ga F.K C)) d a) ∧ F.G d = some (.xd (ns.zip xs)) ∧ RelL F ds xs
  | .loc n, v => ∃ a, F.lm[n]? = some a ∧ v = .ref a
def RelL (F : Fm) : List DV → List V → Prop
  | [], xs => xs = []
  | d :: ds, xs => ∃ x r, xs = x :: r ∧ Rel F d x ∧ RelL F ds r
end

structure Le (F F' : Fm) : Prop where
  k : F'.K = F.K
  b : F'.B = F.B
  p : F'.P = F.P
  g : Same F.G F'.G
  n : ∀ a o, F'.G a = some o → F.G a = some o ∨ F.free a
  m : F.lm <+: F'.lm
theorem Le.refl (F : Fm) : Le F F := ⟨rfl, rfl, rfl, Same.refl _, fun _ _ h => .inl h, List.prefix_refl _⟩
theorem Le.trans {F F1 F2 : Fm} (a : Le F F1) (b : Le F1 F2) : Le F F2 :=
  ⟨b.k.trans a.k, b.b.trans a.b, b.p.trans a.p, a.g.trans b.g, fun x o h => (b.n x o h).elim (fun h => a.n x o h) fun h => .inr ⟨by rw [← a.b]; exact h.1, by rw [← a.p]; exact h.2⟩, a.m.trans b.m⟩
theorem prefix_get {α : Type} {l l' : List α} (h : l <+: l') {n : Nat} {a : α} (e : l[n]? = some a) : l'[n]? = some a := by
  obtain ⟨t, rfl⟩ := h
  rw [List.getElem?_append_left (List.getElem?_eq_some_iff.mp e).1]
  exact e
theorem sqL_same {K : PySem.W.Frag} {H H' : Hp} {a : Addr} {xs : List V} (e : Same H H') (h : SqL K H a xs) : SqL K H' a xs := e.seq h
theorem sqT_same {K : PySem.W.Frag} {H H' : Hp} {a : Addr} {xs : List V} (e : Same H H') (h : SqT K H a xs) : SqT K H' a xs := by
  rcases h with h | h
  · rcases h with h | ⟨o, h⟩
    · exact .inl (.inl (e _ _ h))
    · exact .inl (.inr ⟨o, e _ _ h⟩)
  · exact .inr h

/-- monotone in all but what is put in and taken out -/
structure Wk (F F' : Fm) : Prop where
  k : F'.K = F.K
  b : Same F.B F'.B
  g : Same F.G F'.G
  m : F.lm <+: F'.lm
theorem Le.wk {F F' : Fm} (h : Le F F') : Wk F F' := ⟨h.k, by rw [h.b]; exact Same.refl _, h.g, h.m⟩
mutual
theorem Rel.wk {F F' : Fm} (w : Wk F F') : ∀ (d : DV) (v : V), Rel F d v → Rel F' d v
  | .non, v, h => h
  | .bl b, v, h => h
  | .int i, v, h => h
  | .str s, v, h => h
  | .tup ds, v, h => by
    obtain ⟨a, xs, e, hs, hl⟩ := h
    exact ⟨a, xs, e, w.g _ _ hs, RelL.wk w ds xs hl⟩
  | .tupx ds, v, h => by
    obtain ⟨a, xs, e, hs, hl⟩ := h
    exact ⟨a, xs, e, by rw [w.k]; exact sqN_same w.g hs, RelL.wk w ds xs hl⟩
  | .lst .own ds, v, h => by
    obtain ⟨a, xs, e, hs, hl⟩ := h
    exact ⟨a, xs, e, w.g _ _ hs, RelL.wk w ds xs hl⟩
  | .lst .bor ds, v, h => by
    obtain ⟨a, xs, e, hs, hl⟩ := h
    exact ⟨a, xs, e, hs.elim (fun h => .inl (w.b _ _ h)) fun h => .inr (w.g _ _ h), RelL.wk w ds xs hl⟩
  | .lst .ext ds, v, h => by
    obtain ⟨a, xs, e, hs, hl⟩ := h
    exact ⟨a, xs, e, by rw [w.k]; exact sqL_same w.g hs, RelL.wk w ds xs hl⟩
  | .dik k ks ds, v, h => by
    obtain ⟨a, xs, e, hn, hs, hl⟩ := h
    exact ⟨a, xs, e, hn, hs.elim (fun h => .inl (w.g _ _ h)) fun h => .inr ⟨h.1, w.b _ _ h.2⟩, RelL.wk w ds xs hl⟩
  | .dit k ks ds, v, h => by
    obtain ⟨a, xs, e, hn, hs, hl⟩ := h
    exact ⟨a, xs, e, hn, hs.elim (fun h => .inl (w.g _ _ h)) fun h => .inr ⟨h.1, w.b _ _ h.2⟩, RelL.wk w ds xs hl⟩
  | .exc C ns ds, v, h => by
    obtain ⟨a, d, xs, e, hn, h1, h2, hl⟩ := h
    exact ⟨a, d, xs, e, hn, by rw [w.k]; exact w.g _ _ h1, w.g _ _ h2, RelL.wk w ds xs hl⟩
  | .loc n, v, h => by
    obtain ⟨a, e, hv⟩ := h
    exact ⟨a, prefix_get w.m e, hv⟩
theorem RelL.wk {F F' : Fm} (w : Wk F F') : ∀ (ds : List DV) (xs : List V), RelL F ds xs → RelL F' ds xs
  | [], xs, h => h
  | d :: ds, xs, h => by
    obtain ⟨x, r, e, h1, h2⟩ := h
    exact ⟨x, r, e, Rel.wk w d x h1, RelL.wk w ds r h2⟩
end
theorem Rel.le {F F' : Fm} (w : Le F F') {d : DV} {v : V} (h : Rel F d v) : Rel F' d v := Rel.wk w.wk d v h
theorem RelL.le {F F' : Fm} (w : Le F F') {ds : List DV} {vs : List V} (h : RelL F ds vs) : RelL F' ds vs := RelL.wk w.wk ds vs h
theorem RelL.length {F : Fm} : ∀ {ds : List DV} {vs : List V}, RelL F ds vs → ds.length = vs.length
  | [], vs, h => by
    have e : vs = [] := h
    rw [e] <;> rfl
  | d :: ds, vs, h => by
    obtain ⟨x, r, rfl, _, h2⟩ := h
    rw [List.length_cons, List.length_cons, h2.length]
theorem RelL.nil {F : Fm} {vs : List V} (h : RelL F [] vs) : vs = [] := h
theorem RelL.cons {F : Fm} {d : DV} {v : V} {ds : List DV} {vs : List V} (h1 : Rel F d v) (h2 : RelL F ds vs) : RelL F (d :: ds) (v :: vs) := ⟨v, vs, rfl, h1, h2⟩
theorem RelL.get {F : Fm} : ∀ {ds : List DV} {vs : List V} {i : Nat} {d : DV}, RelL F ds vs → ds[i]? = some d → ∃ v, vs[i]? = some v ∧ Rel F d v
  | [], vs, i, d, h, e => by simp at e
  | d0 :: ds, vs, 0, d, h, e => by
    obtain ⟨x, r, rfl, h1, h2⟩ := h
    have e' : d0 = d := by simpa using e
    subst e'
    exact ⟨x, rfl, h1⟩
  | d0 :: ds, vs, i + 1, d, h, e => by
    obtain ⟨x, r, rfl, h1, h2⟩ := h
    obtain ⟨v, e1, e2⟩ := RelL.get (i := i) h2 (by simpa using e)
    exact ⟨v, by simpa using e1, e2⟩
theorem RelL.append {F : Fm} : ∀ {ds es : List DV} {vs us : List V}, RelL F ds vs → RelL F es us → RelL F (ds ++ es) (vs ++ us)
  | [], es, vs, us, h, k => by
    have e : vs = [] := h
    rw [e]
    exact k
  | d :: ds, es, vs, us, h, k => by
    obtain ⟨x, r, rfl, h1, h2⟩ := h
    exact ⟨x, r ++ us, rfl, h1, RelL.append h2 k⟩
theorem RelL.set {F : Fm} {d : DV} {v : V} (r : Rel F d v) : ∀ {ds : List DV} {vs : List V} (i : Nat), RelL F ds vs → RelL F (ds.set i d) (vs.set i v)
  | [], vs, i, h => by
    have e : vs = [] := h
    rw [e]
    exact rfl
  | d0 :: ds, vs, 0, h => by
    obtain ⟨x, r', rfl, h1, h2⟩ := h
    exact ⟨v, r', rfl, r, h2⟩
  | d0 :: ds, vs, i + 1, h => by
    obtain ⟨x, r', rfl, h1, h2⟩ := h
    exact ⟨x, r'.set i v, rfl, h1, RelL.set r i h2⟩
theorem RelL.take {F : Fm} : ∀ {ds : List DV} {vs : List V} (n : Nat), RelL F ds vs → RelL F (ds.take n) (vs.take n)
  | [], vs, n, h => by
    have e : vs = [] := h
    rw [e, List.take_nil, List.take_nil]
    exact rfl
  | d0 :: ds, vs, 0, h => by
    rw [List.take_zero, List.take_zero]
    exact rfl
  | d0 :: ds, vs, n + 1, h => by
    obtain ⟨x, r', rfl, h1, h2⟩ := h
    exact ⟨x, r'.take n, rfl, h1, RelL.take n h2⟩
theorem RelL.drop {F : Fm} : ∀ {ds : List DV} {vs : List V} (n : Nat), RelL F ds vs → RelL F (ds.drop n) (vs.drop n)
  | [], vs, n, h => by
    have e : vs = [] := h
    rw [e, List.drop_nil, List.drop_nil]
    exact rfl
  | d0 :: ds, vs, 0, h => h
  | d0 :: ds, vs, n + 1, h => by
    obtain ⟨x, r', rfl, h1, h2⟩ := h
    exact RelL.drop n h2
theorem RelL.rev {F : Fm} : ∀ {ds : List DV} {vs : List V}, RelL F ds vs → RelL F ds.reverse vs.reverse
  | [], vs, h => by
    have e : vs = [] := h
    rw [e]
    exact rfl
  | d0 :: ds, vs, h => by
    obtain ⟨x, r', rfl, h1, h2⟩ := h
    rw [List.reverse_cons, List.reverse_cons]
    exact RelL.append (RelL.rev h2) ⟨x, [], rfl, h1, rfl⟩
/-! ### worlds -/
/-- a key (number, truth) -/
def lfK (k : Int × Bool) : List PySem.Leaf := [.num k.1, .num (if k.2 = true then 1 else 0)]
def lfD (k : Int × Bool) : DV := .tup [.int k.1, .bl k.2]
/-- an entry: the key, where its tuple stands, what is kept -/
abbrev LfE : Type := (Int × Bool) × Addr × V × Value
def LfE.raw (e : LfE) : List PySem.Leaf × Addr × Value := (lfK e.1, e.2.1, e.2.2.2)
def DLf (a : Addr) (xs : List (List PySem.Leaf × Addr × Value)) (h : Heap) : Prop :=
  (a == sysModules) = false ∧ xs.length ≤ sizeLine ∧ (xs.map (·.1)).Nodup ∧
    ∃ o es ep, h.get? a = some o ∧ o.ExactDict ∧ o.data = .dict es ep ∧ ∀ (P : Program) (w : World), es.toList = xs.map (entryOfKey (tupleKind (PySem.leafKind P w)))
def CellOk (F : Fm) (H : Hp) (a : Addr) : Cell → Prop
  | .lst ds => ∃ xs, H a = some (.lst xs) ∧ RelL F ds xs
  | .dik ks ds => ∃ xs, ks.length = ds.length ∧ H a = some (.dK (ks.zip xs)) ∧ RelL F ds xs
  | .dit ks ds => ∃ xs, ks.length = ds.length ∧ H a = some (.dT (ks.zip xs)) ∧ RelL F ds xs
  | .ins C fs => ∃ dx xs, H a = some (.ins (He.ga F.K C) dx ((fs.map (·.1)).zip xs)) ∧ RelL F (fs.map (·.2)) xs
  | .frz d => Rel F d (.ref a)
  | .lok ks ds => ∃ o xs, ks.length = ds.length ∧ F.P a = some (.frz o (.dK (ks.zip xs))) ∧ RelL F ds xs
  | .lokt ks ds => ∃ o xs, ks.length = ds.length ∧ F.P a = some (.frz o (.dT (ks.zip xs))) ∧ RelL F ds xs
  | .dlf ks ds => ∃ es : List LfE, H a = some (.ext (DLf a (es.map LfE.raw))) ∧ es.map (·.1) = ks ∧ RelL F (ks.map lfD) (es.map fun e => V.ref e.2.1) ∧ RelL F ds (es.map (·.2.2.1)) ∧ ∀ e ∈ es, RelV e.2.2.1 e.2.2.2
  | .gone => True
/-- what is locked stays locked -/
def PF (F F' : Fm) : Prop := ∀ a o u, F.P a = some (.frz o u) → F'.P a = some (.frz o u)
theorem Le.pf {F F' : Fm} (h : Le F F') : PF F F' := fun a o u e => by rw [h.p]; exact e
structure Rep (F : Fm) (S : Sto) (H : Hp) : Prop where
  g : Same F.G H
  b : Same F.B H
  p : Same F.P H
  tup : ∀ a xs, H a = some (.tup xs) → F.G a = some (.tup xs)
  len : F.lm.length = S.length
  cell : ∀ (n : Nat) (c : Cell) (a : Addr), S[n]? = some c → F.lm[n]? = some a → CellOk F H a c ∧ (c.live = true → F.G a = none ∧ F.free a)
  inj : ∀ (n m : Nat) (c c' : Cell) (a : Addr), S[n]? = some c → S[m]? = some c' → c.live = true → c'.live = true → F.lm[n]? = some a → F.lm[m]? = some a → n = m

theorem CellOk.wk {F F' : Fm} (w : Wk F F') (pf : PF F F') {H H' : Hp} {a : Addr} : ∀ {c : Cell}, CellOk F H a c → (c.live = true → H' a = H a) → CellOk F' H' a c
  | .lst ds, ⟨xs, e, r⟩, h => ⟨xs, (h rfl).trans e, RelL.wk w _ _ r⟩
  | .dik ks ds, ⟨xs, z, e, r⟩, h => ⟨xs, z, (h rfl).trans e, RelL.wk w _ _ r⟩
  | .dit ks ds, ⟨xs, z, e, r⟩, h => ⟨xs, z, (h rfl).trans e, RelL.wk w _ _ r⟩
  | .ins C fs, ⟨dx, xs, e, r⟩, h => ⟨dx, xs, by rw [w.k]; exact (h rfl).trans e, RelL.wk w _ _ r⟩
  | .frz d, r, _ => Rel.wk w _ _ r
  | .lok ks ds, ⟨o, xs, z, e, r⟩, _ => ⟨o, xs, z, pf _ _ _ e, RelL.wk w _ _ r⟩
  | .lokt ks ds, ⟨o, xs, z, e, r⟩, _ => ⟨o, xs, z, pf _ _ _ e, RelL.wk w _ _ r⟩
  | .dlf ks ds, ⟨es, e, z, r1, r2, t⟩, h => ⟨es, (h rfl).trans e, z, RelL.wk w _ _ r1, RelL.wk w _ _ r2, t⟩
  | .gone, _, _ => trivial
theorem CellOk.some {F : Fm} {H : Hp} {a : Addr} : ∀ {c : Cell}, CellOk F H a c → c.live = true → ∃ o, H a = some o ∧ ∀ xs, o ≠ .tup xs
  | .lst ds, ⟨xs, e, r⟩, _ => ⟨_, e, fun _ q => nomatch q⟩
  | .dik ks ds, ⟨xs, z, e, r⟩, _ => ⟨_, e, fun _ q => nomatch q⟩
  | .dit ks ds, ⟨xs, z, e, r⟩, _ => ⟨_, e, fun _ q => nomatch q⟩
  | .ins C fs, ⟨dx, xs, e, r⟩, _ => ⟨_, e, fun _ q => nomatch q⟩
  | .frz d, r, h => nomatch h
  | .lok _ _, r, h => nomatch h
  | .lokt _ _, r, h => nomatch h
  | .dlf ks ds, ⟨es, e, z, r1, r2, t⟩, _ => ⟨_, e, fun _ q => nomatch q⟩
  | .gone, _, h => nomatch h
theorem Rep.at {F : Fm} {S : Sto} {H : Hp} (R : Rep F S H) {n : Nat} {c : Cell} (h : S[n]? = some c) : ∃ a, F.lm[n]? = some a ∧ CellOk F H a c ∧ (c.live = true → F.G a = none ∧ F.free a) := by
  have h1 := (List.getElem?_eq_some_iff.mp h).1
  have e : F.lm[n]? = some (F.lm[n]'(by rw [R.len]; exact h1)) := List.getElem?_eq_getElem _
  exact ⟨_, e, R.cell n c _ h e⟩
theorem same_new {H : Hp} {p : Addr} {o : HO} (h : H p = none) : Same H (upd H p o) := fun a u e => by
  rw [upd_ne (ne_of_none e h)]
  exact e
theorem same_mono {G H : Hp} (s : Same G H) {p : Addr} {o : HO} (h : G p = none) : Same G (upd H p o) := fun a u e => by
  rw [upd_ne (ne_of_none e h)]
  exact s _ _ e
theorem Same.none {G H : Hp} (s : Same G H) {p : Addr} (h : H p = none) : G p = none := s.free h

/-- a new frozen object -/
abbrev Fm.add (F : Fm) (p : Addr) (o : HO) : Fm := { F with G := upd F.G p o }
theorem Fm.add_le {F : Fm} {p : Addr} {o : HO} (h : F.G p = none) (hb : F.free p) : Le F (F.add p o) :=
  ⟨rfl, rfl, rfl, same_new h, fun a u e => by
    by_cases q : a = p
    · exact .inr (by rw [q]; exact hb)
    · have e2 : upd F.G p o a = some u := e
      rw [upd_ne q] at e2
      exact .inl e2, List.prefix_refl _⟩
theorem Rep.add {F : Fm} {S : Sto} {H : Hp} (R : Rep F S H) {p : Addr} {o : HO} (hp : H p = none) : Rep (F.add p o) S (upd H p o) ∧ Le F (F.add p o) := by
  have gp : F.G p = none := R.g.free hp
  have bp : F.free p := ⟨R.b.free hp, R.p.free hp⟩
  have le := Fm.add_le (F := F) (o := o) gp bp
  refine ⟨⟨fun a u e => ?_, same_mono R.b bp.1, same_mono R.p bp.2, fun a xs e => ?_, R.len, fun n c a h e => ?_, R.inj⟩, le⟩
  · by_cases q : a = p
    · subst q
      have e2 : upd F.G a o a = some u := e
      rw [upd_same] at e2 ⊢
      exact e2
    · have e2 : upd F.G p o a = some u := e
      rw [upd_ne q] at e2 ⊢
      exact R.g _ _ e2
  · show upd F.G p o a = _
    by_cases q : a = p
    · subst q
      rw [upd_same] at e ⊢
      exact e
    · rw [upd_ne q] at e ⊢
      exact R.tup _ _ e
  · obtain ⟨k1, k2⟩ := R.cell n c a h e
    refine ⟨k1.wk le.wk le.pf fun hl => ?_, fun hl => ?_⟩
    · obtain ⟨o', e', _⟩ := k1.some hl
      exact upd_ne (ne_of_none e' hp)
    · obtain ⟨o', e', _⟩ := k1.some hl
      refine ⟨?_, (k2 hl).2⟩
      show upd F.G p o a = none
      rw [upd_ne (ne_of_none e' hp)]
      exact (k2 hl).1
/-- a new object beside all this -/
theorem Rep.beside {F : Fm} {S : Sto} {H : Hp} (R : Rep F S H) {p : Addr} {o : HO} (hp : H p = none) (ht : ∀ xs, o ≠ .tup xs) : Rep F S (upd H p o) := by
  have gp : F.G p = none := R.g.free hp
  have bp : F.B p = none := R.b.free hp
  refine ⟨same_mono R.g gp, same_mono R.b bp, same_mono R.p (R.p.free hp), fun a xs e => ?_, R.len, fun n c a h e => ?_, R.inj⟩
  · by_cases q : a = p
    · subst q
      rw [upd_same] at e
      exact absurd (Option.some.inj e) (ht xs)
    · rw [upd_ne q] at e
      exact R.tup _ _ e
  · obtain ⟨k1, k2⟩ := R.cell n c a h e
    refine ⟨k1.wk (Le.refl F).wk (Le.refl F).pf fun hl => ?_, k2⟩
    obtain ⟨o', e', _⟩ := k1.some hl
    exact upd_ne (ne_of_none e' hp)
/-- a new cell for an object that is beside all this -/
abbrev Fm.cell (F : Fm) (p : Addr) : Fm := { F with lm := F.lm ++ [p] }
theorem Fm.cell_le (F : Fm) (p : Addr) : Le F (F.cell p) := ⟨rfl, rfl, rfl, Same.refl _, fun _ _ h => .inl h, List.prefix_append _ _⟩
theorem get_snoc {α : Type} {l : List α} {x y : α} {n : Nat} (h : (l ++ [x])[n]? = some y) : l[n]? = some y ∨ (n = l.length ∧ y = x) := by
  by_cases q : n < l.length
  · rw [List.getElem?_append_left q] at h
    exact .inl h
  · rw [List.getElem?_append_right (by omega)] at h
    by_cases q2 : n - l.length = 0
    · rw [q2] at h
      exact .inr ⟨by omega, (Option.some.inj h).symm⟩
    · rw [List.getElem?_eq_none (by simp; omega)] at h
      cases h
theorem Rep.cell_new {F : Fm} {S : Sto} {H : Hp} (R : Rep F S H) {p : Addr} {c : Cell} (hc : CellOk (F.cell p) H p c) (gp : F.G p = none) (bp : F.free p)
    (hn : ∀ (n : Nat) (c : Cell), S[n]? = some c → c.live = true → F.lm[n]? ≠ some p) : Rep (F.cell p) (S ++ [c]) H := by
  refine ⟨R.g, R.b, R.p, R.tup, by simp [R.len], fun n c' a h e => ?_, fun n m c1 c2 a h1 h2 l1 l2 e1 e2 => ?_⟩
  · rcases get_snoc h with h | ⟨hn2, hh⟩
    · have hlt := (List.getElem?_eq_some_iff.mp h).1
      have e' : F.lm[n]? = some a := by
        have e0 : (F.lm ++ [p])[n]? = some a := e
        rw [List.getElem?_append_left (by rw [R.len]; exact hlt)] at e0
        exact e0
      obtain ⟨k1, k2⟩ := R.cell n c' a h e'
      exact ⟨k1.wk (F.cell_le p).wk (F.cell_le p).pf fun _ => rfl, k2⟩
    · subst hh
      have e0 : (F.lm ++ [p])[n]? = some a := e
      rw [hn2, ← R.len] at e0
      simp at e0
      subst e0
      exact ⟨hc, fun _ => ⟨gp, bp⟩⟩
  · have r1 : ∀ {n : Nat} {c : Cell}, (S ++ [c])[n]? = some c → True := fun _ => trivial
    have e1' : (F.lm ++ [p])[n]? = some a := e1
    have e2' : (F.lm ++ [p])[m]? = some a := e2
    have old : ∀ {n : Nat} {c' : Cell}, S[n]? = some c' → (F.lm ++ [p])[n]? = some a → F.lm[n]? = some a := fun {n c'} h e0 => by
      rw [List.getElem?_append_left (by rw [R.len]; exact (List.getElem?_eq_some_iff.mp h).1)] at e0
      exact e0
    have new : ∀ {n : Nat}, n = S.length → (F.lm ++ [p])[n]? = some a → a = p := fun {n} h e0 => by
      rw [h, ← R.len] at e0
      simp at e0
      exact e0.symm
    rcases get_snoc h1 with h1 | ⟨h1, hh1⟩
    · rcases get_snoc h2 with h2 | ⟨h2, hh2⟩
      · exact R.inj n m c1 c2 a h1 h2 l1 l2 (old h1 e1') (old h2 e2')
      · have := new h2 e2'
        subst this
        exact absurd (old h1 e1') (hn n c1 h1 l1)
    · rcases get_snoc h2 with h2 | ⟨h2, hh2⟩
      · have := new h1 e1'
        subst this
        exact absurd (old h2 e2') (hn m c2 h2 l2)
      · rw [h1, h2]
theorem Rep.noCell {F : Fm} {S : Sto} {H : Hp} (R : Rep F S H) {p : Addr} (hp : H p = none) : ∀ (n : Nat) (c : Cell), S[n]? = some c → c.live = true → F.lm[n]? ≠ some p := fun n c h l e => by
  obtain ⟨k1, _⟩ := R.cell n c p h e
  obtain ⟨o, e', _⟩ := k1.some l
  rw [hp] at e'
  cases e'
theorem Rep.alloc {F : Fm} {S : Sto} {H : Hp} (R : Rep F S H) {p : Addr} {o : HO} {c : Cell} (hp : H p = none) (ht : ∀ xs, o ≠ .tup xs) (hc : CellOk (F.cell p) (upd H p o) p c) : Rep (F.cell p) (S ++ [c]) (upd H p o) :=
  (R.beside hp ht).cell_new hc (R.g.free hp) ⟨R.b.free hp, R.p.free hp⟩ (R.noCell hp)
/-- a live cell is written -/
theorem Rep.write {F : Fm} {S : Sto} {H : Hp} (R : Rep F S H) {n : Nat} {c c' : Cell} {a : Addr} {o : HO} (h : S[n]? = some c) (l : c.live = true) (e : F.lm[n]? = some a) (ht : ∀ xs, o ≠ .tup xs) (l' : c'.live = true)
    (hc : CellOk F (upd H a o) a c') : Rep F (S.set n c') (upd H a o) := by
  obtain ⟨k1, k2⟩ := R.cell n c a h e
  obtain ⟨ga, ba⟩ := k2 l
  obtain ⟨o0, e0, t0⟩ := k1.some l
  have hlt := (List.getElem?_eq_some_iff.mp h).1
  refine ⟨same_mono R.g ga, same_mono R.b ba.1, same_mono R.p ba.2, fun b xs q => ?_, by simp [R.len], fun m cm b hm em => ?_, fun m1 m2 c1 c2 b h1 h2 l1 l2 e1 e2 => ?_⟩
  · by_cases z : b = a
    · subst z
      rw [upd_same] at q
      exact absurd (Option.some.inj q) (ht xs)
    · rw [upd_ne z] at q
      exact R.tup _ _ q
  · by_cases z : m = n
    · subst z
      rw [List.getElem?_set_self hlt] at hm
      cases hm
      rw [e] at em
      cases em
      exact ⟨hc, fun _ => ⟨ga, ba⟩⟩
    · rw [List.getElem?_set_ne (fun q => z q.symm)] at hm
      obtain ⟨j1, j2⟩ := R.cell m cm b hm em
      refine ⟨j1.wk (Le.refl F).wk (Le.refl F).pf fun lm => ?_, j2⟩
      refine upd_ne fun q => ?_
      subst q
      exact z (R.inj m n cm c b hm h lm l em e)
  · have old : ∀ {m : Nat} {cm : Cell}, (S.set n c')[m]? = some cm → cm.live = true → ∃ cm', S[m]? = some cm' ∧ cm'.live = true := fun {m cm} hm lm => by
      by_cases z : m = n
      · subst z
        exact ⟨c, h, l⟩
      · rw [List.getElem?_set_ne (fun q => z q.symm)] at hm
        exact ⟨cm, hm, lm⟩
    obtain ⟨d1, x1, y1⟩ := old h1 l1
    obtain ⟨d2, x2, y2⟩ := old h2 l2
    exact R.inj m1 m2 d1 d2 b x1 x2 y1 y2 e1 e2
end Dn

namespace Dn
open PySem L2

/-! ### readings by denotations -/
abbrev Ev := List (Option DV)
abbrev DE := Ev → Sto → Option (DV × Sto)
abbrev DA := Ev → Sto → Option (List DV × Sto)
abbrev DG := DV → Ev → Sto → Option (Ev × Sto)
inductive Out where
  | nx (ρ : Ev) (S : Sto)
  | rt (d : DV) (S : Sto)
  | bk (ρ : Ev) (S : Sto)
  | ct (ρ : Ev) (S : Sto)
def Out.S : Out → Sto
  | .nx _ S => S
  | .rt _ S => S
  | .bk _ S => S
  | .ct _ S => S
abbrev DS := Ev → Sto → Option Out
structure RelE (F : Fm) (ρ : Ev) (σ : St) : Prop where
  len : ρ.length = σ.length
  at_ : ∀ (i : Nat) (d : DV), ρ[i]? = some (some d) → ∃ v, σ[i]? = some (some v) ∧ Rel F d v
theorem RelE.wk {F F' : Fm} (w : Wk F F') {ρ : Ev} {σ : St} (r : RelE F ρ σ) : RelE F' ρ σ := ⟨r.len, fun i d e => by
  obtain ⟨v, h1, h2⟩ := r.at_ i d e
  exact ⟨v, h1, Rel.wk w _ _ h2⟩⟩
theorem RelE.le {F F' : Fm} (w : Le F F') {ρ : Ev} {σ : St} (r : RelE F ρ σ) : RelE F' ρ σ := r.wk w.wk
theorem RelE.set {F : Fm} {ρ : Ev} {σ : St} (r : RelE F ρ σ) (i : Nat) {d : DV} {v : V} (h : Rel F d v) : RelE F (ρ.set i (some d)) (σ.set i (some v)) := by
  refine ⟨by simp [r.len], fun j e hj => ?_⟩
  by_cases q : j = i
  · subst q
    have hlt := (List.getElem?_eq_some_iff.mp hj).1
    rw [List.length_set] at hlt
    rw [List.getElem?_set_self hlt] at hj
    cases hj
    exact ⟨v, List.getElem?_set_self (by rw [← r.len]; exact hlt), h⟩
  · rw [List.getElem?_set_ne (fun z => q z.symm)] at hj
    rw [List.getElem?_set_ne (fun z => q z.symm)]
    exact r.at_ j e hj
def PostE (F : Fm) (S : Sto) (d : DV) (Q : VK) : Prop := ∀ F' H' v, Le F F' → Rep F' S H' → Rel F' d v → Q v H'
def PostT (F : Fm) (S : Sto) (b : Bool) (Q : Bool → Hp → Prop) : Prop := ∀ F' H', Le F F' → Rep F' S H' → Q b H'
def PostA (F : Fm) (S : Sto) (ds : List DV) (Q : List V → Hp → Prop) : Prop := ∀ F' H' vs, Le F F' → Rep F' S H' → RelL F' ds vs → Q vs H'
def PostO (F : Fm) (D : Ends) (H : Hp) : Out → Prop
  | .nx ρ _ => ∀ σ, RelE F ρ σ → D.nx σ H
  | .rt d _ => ∀ v, Rel F d v → D.rt v H
  | .bk ρ _ => ∀ σ, RelE F ρ σ → D.bk σ H
  | .ct ρ _ => ∀ σ, RelE F ρ σ → D.ct σ H
def PostS (F : Fm) (o : Out) (D : Ends) : Prop := ∀ F' H', Le F F' → Rep F' o.S H' → PostO F' D H' o
theorem PostE.le {F F' : Fm} {S : Sto} {d : DV} {Q : VK} (h : PostE F S d Q) (w : Le F F') : PostE F' S d Q := fun F2 H2 v w2 => h F2 H2 v (w.trans w2)
theorem PostS.le {F F' : Fm} {o : Out} {D : Ends} (h : PostS F o D) (w : Le F F') : PostS F' o D := fun F2 H2 w2 => h F2 H2 (w.trans w2)
def rdE (K : PySem.W.Frag) (f : DE) : TE := fun σ H Q => ∃ F S ρ d S', F.K = K ∧ Rep F S H ∧ RelE F ρ σ ∧ f ρ S = some (d, S') ∧ PostE F S' d Q
def rdT (K : PySem.W.Frag) (f : DE) : TT := fun σ H Q => ∃ F S ρ b S', F.K = K ∧ Rep F S H ∧ RelE F ρ σ ∧ f ρ S = some (.bl b, S') ∧ PostT F S' b Q
def rdA (K : PySem.W.Frag) (f : DA) : TA := fun σ H Q => ∃ F S ρ ds S', F.K = K ∧ Rep F S H ∧ RelE F ρ σ ∧ f ρ S = some (ds, S') ∧ PostA F S' ds Q
def rdS (K : PySem.W.Frag) (f : DS) : TS := fun D σ H => ∃ F S ρ o, F.K = K ∧ Rep F S H ∧ RelE F ρ σ ∧ f ρ S = some o ∧ PostS F o D
def rdG (K : PySem.W.Frag) (g : DG) : TG := fun v σ H Q => ∃ F S ρ d ρ' S', F.K = K ∧ Rep F S H ∧ RelE F ρ σ ∧ Rel F d v ∧ g d ρ S = some (ρ', S') ∧ ∀ F' H' σ', Le F F' → Rep F' S' H' → RelE F' ρ' σ' → Q σ' H'
structure ED (X : Cx) (e : Expr) (f : DE) : Prop where
  pe : PE X e (rdE X.K f)
structure TD (X : Cx) (e : Expr) (f : DE) : Prop where
  pt : PT X e (rdT X.K f)
structure TDW (X : Cx) (e : Expr) (f : DE) : Prop where
  pw : PW X e (rdT X.K f)
structure AD (X : Cx) (es : List Expr) (f : DA) : Prop where
  pa : PA X es (rdA X.K f)
structure SD (X : Cx) (st : Stmt) (f : DS) : Prop where
  ps : PS X st (rdS X.K f)
structure SDs (X : Cx) (st : List Stmt) (f : DS) : Prop where
  ps : PSs X st (rdS X.K f)
structure GD (X : Cx) (e : Expr) (g : DG) : Prop where
  pg : PG X e (rdG X.K g)
section
variable {X : Cx} {e : Expr}
theorem ED.of {t : TE} {f : DE} (h : PE X e t) (m : ∀ F S H ρ σ d S' Q, F.K = X.K → Rep F S H → RelE F ρ σ → f ρ S = some (d, S') → PostE F S' d Q → t σ H Q) : ED X e f :=
  ⟨⟨fun pins s σ H Q I ⟨F, S, ρ, d, S', hk, R, r, hf, hq⟩ => h.run pins s σ H Q I (m F S H ρ σ d S' Q hk R r hf hq)⟩⟩
theorem TD.of {t : TT} {f : DE} (h : PT X e t) (m : ∀ F S H ρ σ b S' Q, F.K = X.K → Rep F S H → RelE F ρ σ → f ρ S = some (.bl b, S') → PostT F S' b Q → t σ H Q) : TD X e f :=
  ⟨⟨fun pins s σ H Q I ⟨F, S, ρ, d, S', hk, R, r, hf, hq⟩ => h.run pins s σ H Q I (m F S H ρ σ d S' Q hk R r hf hq)⟩⟩
theorem TDW.of {t : TT} {f : DE} (h : PW X e t) (m : ∀ F S H ρ σ b S' Q, F.K = X.K → Rep F S H → RelE F ρ σ → f ρ S = some (.bl b, S') → PostT F S' b Q → t σ H Q) : TDW X e f :=
  ⟨⟨fun whole pins s σ H Q I ⟨F, S, ρ, d, S', hk, R, r, hf, hq⟩ => h.run whole pins s σ H Q I (m F S H ρ σ d S' Q hk R r hf hq)⟩⟩
theorem AD.of {es : List Expr} {t : TA} {f : DA} (h : PA X es t) (m : ∀ F S H ρ σ d S' Q, F.K = X.K → Rep F S H → RelE F ρ σ → f ρ S = some (d, S') → PostA F S' d Q → t σ H Q) : AD X es f :=
  ⟨⟨fun pos pins s σ H Q I ⟨F, S, ρ, d, S', hk, R, r, hf, hq⟩ => h.run pos pins s σ H Q I (m F S H ρ σ d S' Q hk R r hf hq)⟩⟩
theorem SD.of {st : Stmt} {t : TS} {f : DS} (h : PS X st t) (m : ∀ F S H ρ σ o D, F.K = X.K → Rep F S H → RelE F ρ σ → f ρ S = some o → PostS F o D → t D σ H) : SD X st f :=
  ⟨⟨fun pins s σ H D I ⟨F, S, ρ, o, hk, R, r, hf, hq⟩ => h.run pins s σ H D I (m F S H ρ σ o D hk R r hf hq)⟩⟩
theorem SDs.of {st : List Stmt} {t : TS} {f : DS} (h : PSs X st t) (m : ∀ F S H ρ σ o D, F.K = X.K → Rep F S H → RelE F ρ σ → f ρ S = some o → PostS F o D → t D σ H) : SDs X st f :=
  ⟨⟨fun pins s σ H D I ⟨F, S, ρ, o, hk, R, r, hf, hq⟩ => h.run pins s σ H D I (m F S H ρ σ o D hk R r hf hq)⟩⟩
theorem GD.of {t : TG} {g : DG} (h : PG X e t) (m : ∀ F S H ρ σ d v ρ' S' Q, F.K = X.K → Rep F S H → RelE F ρ σ → Rel F d v → g d ρ S = some (ρ', S') → (∀ F' H' σ', Le F F' → Rep F' S' H' → RelE F' ρ' σ' → Q σ' H') → t v σ H Q) : GD X e g :=
  ⟨⟨fun pins s σ H v u Q I rv ⟨F, S, ρ, d, ρ', S', hk, R, r, rd, hf, hq⟩ => h.run pins s σ H v u Q I rv (m F S H ρ σ d v ρ' S' Q hk R r rd hf hq)⟩⟩
end
section
variable {K : PySem.W.Frag} {F : Fm} {S S' S1 : Sto} {H : Hp} {ρ : Ev} {σ : St} {d : DV} {Q : VK}
/-- a part is run: what is behind it -/
theorem rdE.go {f : DE} (hk : F.K = K) (R : Rep F S H) (r : RelE F ρ σ) (hf : f ρ S = some (d, S1)) (k : ∀ F' H' v, Le F F' → F'.K = K → Rep F' S1 H' → RelE F' ρ σ → Rel F' d v → Q v H') : rdE K f σ H Q :=
  ⟨F, S, ρ, d, S1, hk, R, r, hf, fun F' H' v le R' r' => k F' H' v le (le.k.trans hk) R' (r.le le) r'⟩
theorem rdT.go {f : DE} {b : Bool} {Q : Bool → Hp → Prop} (hk : F.K = K) (R : Rep F S H) (r : RelE F ρ σ) (hf : f ρ S = some (.bl b, S1)) (k : ∀ F' H', Le F F' → F'.K = K → Rep F' S1 H' → RelE F' ρ σ → Q b H') : rdT K f σ H Q :=
  ⟨F, S, ρ, b, S1, hk, R, r, hf, fun F' H' le R' => k F' H' le (le.k.trans hk) R' (r.le le)⟩
theorem rdA.go {f : DA} {ds : List DV} {Q : List V → Hp → Prop} (hk : F.K = K) (R : Rep F S H) (r : RelE F ρ σ) (hf : f ρ S = some (ds, S1)) (k : ∀ F' H' vs, Le F F' → F'.K = K → Rep F' S1 H' → RelE F' ρ σ → RelL F' ds vs → Q vs H') : rdA K f σ H Q :=
  ⟨F, S, ρ, ds, S1, hk, R, r, hf, fun F' H' v le R' r' => k F' H' v le (le.k.trans hk) R' (r.le le) r'⟩
end

/-! ### names, constants -/
section
variable {X : Cx} {e a b : Expr} {pos : Pos}
def dVar (i : Nat) : DE := fun ρ S => match ρ[i]? with
  | some (some d) => some (d, S)
  | _ => none
theorem dVar_some {i : Nat} {ρ : Ev} {S : Sto} {d : DV} {S' : Sto} (h : dVar i ρ S = some (d, S')) : ρ[i]? = some (some d) ∧ S' = S := by
  unfold dVar at h
  split at h
  · rename_i d' e
    cases h
    exact ⟨e, rfl⟩
  · cases h
theorem ed_var {i : Nat} (h : PE X e (tVar i)) : ED X e (dVar i) := .of h fun F S H ρ σ d S' Q hk R r hf hq => by
  obtain ⟨h1, rfl⟩ := dVar_some hf
  obtain ⟨v, e1, e2⟩ := r.at_ i d h1
  exact ⟨v, e1, hq F H v (.refl F) R e2⟩
def dC (d : DV) : DE := fun _ S => some (d, S)
theorem ed_c {d : DV} {v : V} (h : PE X e (tC v)) (hr : ∀ F : Fm, Rel F d v) : ED X e (dC d) := .of h fun F S H ρ σ d' S' Q hk R r hf hq => by
  have e : some (d, S) = some (d', S') := hf
  cases e
  exact hq F H v (.refl F) R (hr F)
theorem ed_int {i : Int} {j : Nat} : ED X (.Constant (.int i) j pos) (dC (.int i)) := ed_c pe_int fun _ => rfl
theorem ed_bl {i : Bool} {j : Nat} : ED X (.Constant (.bool i) j pos) (dC (.bl i)) := ed_c pe_bl fun _ => rfl
theorem ed_non {j : Nat} : ED X (.Constant .none j pos) (dC .non) := ed_c pe_non fun _ => rfl
theorem ed_str {i : Str} {j : Nat} : ED X (.Constant (.str i) j pos) (dC (.str i)) := ed_c pe_str fun _ => rfl

/-! ### operators -/
abbrev P1 := DV → Sto → Option (DV × Sto)
abbrev P2 := DV → DV → Sto → Option (DV × Sto)
abbrev PL := List DV → Sto → Option (DV × Sto)
def dUn (p : P1) (f : DE) : DE := fun ρ S => match f ρ S with
  | some (x, S1) => p x S1
  | none => none
def dBin (p : P2) (f g : DE) : DE := fun ρ S => match f ρ S with
  | some (x, S1) => (match g ρ S1 with
    | some (y, S2) => p x y S2
    | none => none)
  | none => none
def Ok1 (K : PySem.W.Frag) (p : P1) (r : V → Hp → VK → Prop) : Prop := ∀ F S H x vx d S' Q, F.K = K → Rep F S H → Rel F x vx → p x S = some (d, S') → PostE F S' d Q → r vx H Q
def Ok2 (K : PySem.W.Frag) (p : P2) (r : R2) : Prop := ∀ F S H x y vx vy d S' Q, F.K = K → Rep F S H → Rel F x vx → Rel F y vy → p x y S = some (d, S') → PostE F S' d Q → r vx vy H Q
def OkL (K : PySem.W.Frag) (p : PL) (r : List V → Hp → VK → Prop) : Prop := ∀ F S H xs vs d S' Q, F.K = K → Rep F S H → RelL F xs vs → p xs S = some (d, S') → PostE F S' d Q → r vs H Q
theorem dUn_some {p : P1} {f : DE} {ρ : Ev} {S : Sto} {z : DV × Sto} (h : dUn p f ρ S = some z) : ∃ x S1, f ρ S = some (x, S1) ∧ p x S1 = some z := by
  unfold dUn at h
  split at h
  · exact ⟨_, _, by assumption, h⟩
  · cases h
theorem dBin_some {p : P2} {f g : DE} {ρ : Ev} {S : Sto} {z : DV × Sto} (h : dBin p f g ρ S = some z) : ∃ x S1 y S2, f ρ S = some (x, S1) ∧ g ρ S1 = some (y, S2) ∧ p x y S2 = some z := by
  unfold dBin at h
  split at h
  · split at h
    · exact ⟨_, _, _, _, by assumption, by assumption, h⟩
    · cases h
  · cases h
theorem un_go {p : P1} {f : DE} {r : V → Hp → VK → Prop} (hp : Ok1 X.K p r) {F : Fm} {S S' : Sto} {H : Hp} {ρ : Ev} {σ : St} {d : DV} {Q : VK} (hk : F.K = X.K) (R : Rep F S H) (rr : RelE F ρ σ) (hf : dUn p f ρ S = some (d, S')) (hq : PostE F S' d Q) : tUn r (rdE X.K f) σ H Q := by
  obtain ⟨x, S1, h1, h2⟩ := dUn_some hf
  exact rdE.go hk R rr h1 fun F1 H1 v le hk1 R1 r1 rx => hp F1 S1 H1 x v d S' Q hk1 R1 rx h2 (hq.le le)
theorem bin_go {p : P2} {f g : DE} {r : R2} (hp : Ok2 X.K p r) {F : Fm} {S S' : Sto} {H : Hp} {ρ : Ev} {σ : St} {d : DV} {Q : VK} (hk : F.K = X.K) (R : Rep F S H) (rr : RelE F ρ σ) (hf : dBin p f g ρ S = some (d, S')) (hq : PostE F S' d Q) : tOp r (rdE X.K f) (rdE X.K g) σ H Q := by
  obtain ⟨x, S1, y, S2, h1, h2, h3⟩ := dBin_some hf
  exact rdE.go hk R rr h1 fun F1 H1 v le hk1 R1 r1 rx => rdE.go hk1 R1 r1 h2 fun F2 H2 u le2 hk2 R2 r2 ry => hp F2 S2 H2 x y v u d S' Q hk2 R2 (rx.le le2) ry h3 (hq.le (le.trans le2))
theorem ed_bin {op : Operator} {r : R2} {p : P2} {f g : DE} (ho : OpR X (binaryOp op) r) (hp : Ok2 X.K p r) (ha : ED X a f) (hb : ED X b g) : ED X (.BinOp a op b pos) (dBin p f g) :=
  .of (pe_op ho ha.pe hb.pe) fun F S H ρ σ d S' Q hk R rr hf hq => bin_go hp hk R rr hf hq
theorem ed_un {op : UnaryOp} {r : V → Hp → VK → Prop} {p : P1} {f : DE} (ho : UnR X (unaryOp op) r) (hp : Ok1 X.K p r) (ha : ED X a f) : ED X (.UnaryOp op a pos) (dUn p f) :=
  .of (pe_un ho ha.pe) fun F S H ρ σ d S' Q hk R rr hf hq => un_go hp hk R rr hf hq
theorem ed_cmp {op : CmpOp} {r : R2} {p : P2} {f g : DE} (ho : OpR X (compareOp op) r) (hp : Ok2 X.K p r) (ha : ED X a f) (hb : ED X b g) (hm : behindInMarks op b = false) : ED X (.Compare a [op] [b] pos) (dBin p f g) :=
  .of (pe_cmpR ho ha.pe hb.pe hm) fun F S H ρ σ d S' Q hk R rr hf hq => bin_go hp hk R rr hf hq
theorem td_cmp {op : CmpOp} {r : R2} {p : P2} {f g : DE} (ho : OpR X (compareOp op) r) (hp : Ok2 X.K p r) (ha : ED X a f) (hb : ED X b g) (hm : behindInMarks op b = false) : TD X (.Compare a [op] [b] pos) (dBin p f g) :=
  .of (pt_cmpR ho ha.pe hb.pe hm) fun F S H ρ σ d S' Q hk R rr hf hq => bin_go hp hk R rr hf fun F' H' v le R' rv => by
    have e : v = .bl d := rv
    exact ⟨d, e, hq F' H' le R'⟩
/-- a < b < c, b asked once -/
def dChain (p q : P2) (f g h : DE) : DE := fun ρ S => match f ρ S with
  | some (x, S1) => (match g ρ S1 with
    | some (y, S2) => (match p x y S2 with
      | some (.bl true, S3) => (match h ρ S3 with
        | some (z, S4) => q y z S4
        | none => none)
      | some (.bl false, S3) => some (.bl false, S3)
      | _ => none)
    | none => none)
  | none => none

/-! ### and, or, not, if else -/
def dAnd (f g : DE) : DE := fun ρ S => match f ρ S with
  | some (.bl true, S1) => g ρ S1
  | some (.bl false, S1) => some (.bl false, S1)
  | _ => none
def dOr (f g : DE) : DE := fun ρ S => match f ρ S with
  | some (.bl true, S1) => some (.bl true, S1)
  | some (.bl false, S1) => g ρ S1
  | _ => none
def dNot (f : DE) : DE := fun ρ S => match f ρ S with
  | some (.bl c, S1) => some (.bl (!c), S1)
  | _ => none
def dIf (c f g : DE) : DE := fun ρ S => match c ρ S with
  | some (.bl true, S1) => f ρ S1
  | some (.bl false, S1) => g ρ S1
  | _ => none
theorem dAnd_some {f g : DE} {ρ : Ev} {S : Sto} {z : DV × Sto} (h : dAnd f g ρ S = some z) : (∃ S1, f ρ S = some (.bl true, S1) ∧ g ρ S1 = some z) ∨ (∃ S1, f ρ S = some (.bl false, S1) ∧ z = (.bl false, S1)) := by
  unfold dAnd at h
  split at h
  · exact .inl ⟨_, by assumption, h⟩
  · exact .inr ⟨_, by assumption, (Option.some.inj h).symm⟩
  · cases h
theorem dOr_some {f g : DE} {ρ : Ev} {S : Sto} {z : DV × Sto} (h : dOr f g ρ S = some z) : (∃ S1, f ρ S = some (.bl true, S1) ∧ z = (.bl true, S1)) ∨ (∃ S1, f ρ S = some (.bl false, S1) ∧ g ρ S1 = some z) := by
  unfold dOr at h
  split at h
  · exact .inl ⟨_, by assumption, (Option.some.inj h).symm⟩
  · exact .inr ⟨_, by assumption, h⟩
  · cases h
theorem dNot_some {f : DE} {ρ : Ev} {S : Sto} {z : DV × Sto} (h : dNot f ρ S = some z) : ∃ c S1, f ρ S = some (.bl c, S1) ∧ z = (.bl (!c), S1) := by
  unfold dNot at h
  split at h
  · exact ⟨_, _, by assumption, (Option.some.inj h).symm⟩
  · cases h
variable {rest : List Expr} {f g : DE}
theorem td_val (h : ED X e f) (he : ∀ whole, isTrue e X.env whole = (do let v ← whole; standAt e.pos; holding [v] (truthy v)) := by intro _; rfl) : TD X e f :=
  .of (pt_val h.pe he) fun F S H ρ σ b S' Q hk R rr hf hq => rdE.go hk R rr hf fun F' H' v le _ R' _ rv => by
    have e : v = .bl b := rv
    exact ⟨b, e, hq F' H' le R'⟩
theorem TDW.td (h : TDW X e f) : TD X e f := ⟨h.pw.pt⟩
theorem tw_and1 (h : TD X a f) : TDW X (.BoolOp .And [a] pos) f := ⟨pw_and1 h.pt⟩
theorem tw_or1 (h : TD X a f) : TDW X (.BoolOp .Or [a] pos) f := ⟨pw_or1 h.pt⟩
theorem and_go {F : Fm} {S S' : Sto} {H : Hp} {ρ : Ev} {σ : St} {c : Bool} {Q : Bool → Hp → Prop} (hk : F.K = X.K) (R : Rep F S H) (rr : RelE F ρ σ) (hf : dAnd f g ρ S = some (.bl c, S')) (hq : PostT F S' c Q) : tAnd (rdT X.K f) (rdT X.K g) σ H Q := by
  rcases dAnd_some hf with ⟨S1, h1, h2⟩ | ⟨S1, h1, h2⟩
  · refine rdT.go hk R rr h1 fun F1 H1 le hk1 R1 r1 => ?_
    rw [if_pos rfl]
    exact rdT.go hk1 R1 r1 h2 fun F2 H2 le2 hk2 R2 _ => hq F2 H2 (le.trans le2) R2
  · cases h2
    refine rdT.go hk R rr h1 fun F1 H1 le hk1 R1 r1 => ?_
    rw [if_neg Bool.false_ne_true]
    exact hq F1 H1 le R1
theorem or_go {F : Fm} {S S' : Sto} {H : Hp} {ρ : Ev} {σ : St} {c : Bool} {Q : Bool → Hp → Prop} (hk : F.K = X.K) (R : Rep F S H) (rr : RelE F ρ σ) (hf : dOr f g ρ S = some (.bl c, S')) (hq : PostT F S' c Q) : tOr (rdT X.K f) (rdT X.K g) σ H Q := by
  rcases dOr_some hf with ⟨S1, h1, h2⟩ | ⟨S1, h1, h2⟩
  · cases h2
    refine rdT.go hk R rr h1 fun F1 H1 le hk1 R1 r1 => ?_
    rw [if_pos rfl]
    exact hq F1 H1 le R1
  · refine rdT.go hk R rr h1 fun F1 H1 le hk1 R1 r1 => ?_
    rw [if_neg Bool.false_ne_true]
    exact rdT.go hk1 R1 r1 h2 fun F2 H2 le2 hk2 R2 _ => hq F2 H2 (le.trans le2) R2
theorem tw_and (ha : TD X a f) (hb : TDW X (.BoolOp .And (b :: rest) pos) g) : TDW X (.BoolOp .And (a :: b :: rest) pos) (dAnd f g) :=
  .of (pw_and ha.pt hb.pw) fun F S H ρ σ c S' Q hk R rr hf hq => and_go hk R rr hf hq
theorem tw_or (ha : TD X a f) (hb : TDW X (.BoolOp .Or (b :: rest) pos) g) : TDW X (.BoolOp .Or (a :: b :: rest) pos) (dOr f g) :=
  .of (pw_or ha.pt hb.pw) fun F S H ρ σ c S' Q hk R rr hf hq => or_go hk R rr hf hq
theorem td_not (ha : TD X a f) : TD X (.UnaryOp .Not a pos) (dNot f) :=
  .of (pt_not ha.pt) fun F S H ρ σ c S' Q hk R rr hf hq => by
    obtain ⟨c', S1, h1, h2⟩ := dNot_some hf
    cases h2
    exact rdT.go hk R rr h1 fun F1 H1 le hk1 R1 r1 => hq F1 H1 le R1
theorem ed_one {op : BoolOp} (h : ED X a f) : ED X (.BoolOp op [a] pos) f := ⟨pe_one h.pe⟩
theorem ed_and (ha : ED X a f) (hb : ED X (.BoolOp .And (b :: rest) pos) g) : ED X (.BoolOp .And (a :: b :: rest) pos) (dAnd f g) :=
  .of (pe_and ha.pe hb.pe) fun F S H ρ σ d S' Q hk R rr hf hq => by
    rcases dAnd_some hf with ⟨S1, h1, h2⟩ | ⟨S1, h1, h2⟩
    · refine rdE.go hk R rr h1 fun F1 H1 v le hk1 R1 r1 rv => ⟨true, rv, ?_⟩
      rw [if_pos rfl]
      exact rdE.go hk1 R1 r1 h2 fun F2 H2 v le2 hk2 R2 _ rv => hq F2 H2 v (le.trans le2) R2 rv
    · cases h2
      refine rdE.go hk R rr h1 fun F1 H1 v le hk1 R1 r1 rv => ⟨false, rv, ?_⟩
      rw [if_neg Bool.false_ne_true]
      exact hq F1 H1 _ le R1 rfl
theorem ed_not (ha : ED X a f) : ED X (.UnaryOp .Not a pos) (dNot f) :=
  .of (pe_not ha.pe) fun F S H ρ σ d S' Q hk R rr hf hq => by
    obtain ⟨c', S1, h1, h2⟩ := dNot_some hf
    cases h2
    exact rdE.go hk R rr h1 fun F1 H1 v le hk1 R1 r1 rv => ⟨c', rv, hq F1 H1 _ le R1 rfl⟩
/-! ### argument lists -/
def aNil : DA := fun _ S => some ([], S)
def aCons (f : DE) (g : DA) : DA := fun ρ S => match f ρ S with
  | some (x, S1) => (match g ρ S1 with
    | some (xs, S2) => some (x :: xs, S2)
    | none => none)
  | none => none
theorem aCons_some {f : DE} {g : DA} {ρ : Ev} {S : Sto} {z : List DV × Sto} (h : aCons f g ρ S = some z) : ∃ x S1 xs S2, f ρ S = some (x, S1) ∧ g ρ S1 = some (xs, S2) ∧ z = (x :: xs, S2) := by
  unfold aCons at h
  split at h
  · split at h
    · exact ⟨_, _, _, _, by assumption, by assumption, (Option.some.inj h).symm⟩
    · cases h
  · cases h
theorem ad_nil : AD X [] aNil := .of pa_nil fun F S H ρ σ d S' Q hk R rr hf hq => by
  cases (show some (([] : List DV), S) = some (d, S') from hf)
  exact hq F H [] (.refl F) R rfl
theorem ad_cons {es : List Expr} {g : DA} (ha : ED X e f) (hr : AD X es g) (hs : starEach (e :: es) X.env = (false, eval e X.env) :: starEach es X.env := by rfl) : AD X (e :: es) (aCons f g) :=
  .of (pa_cons ha.pe hr.pa hs) fun F S H ρ σ d S' Q hk R rr hf hq => by
    obtain ⟨x, S1, xs, S2, h1, h2, h3⟩ := aCons_some hf
    cases h3
    exact rdE.go hk R rr h1 fun F1 H1 v le hk1 R1 r1 rx => rdA.go hk1 R1 r1 h2 fun F2 H2 vs le2 hk2 R2 r2 ry => hq F2 H2 (v :: vs) (le.trans le2) R2 (.cons (rx.le le2) ry)
def dPrim (p : PL) (f : DA) : DE := fun ρ S => match f ρ S with
  | some (xs, S1) => p xs S1
  | none => none
theorem dPrim_some {p : PL} {f : DA} {ρ : Ev} {S : Sto} {z : DV × Sto} (h : dPrim p f ρ S = some z) : ∃ x S1, f ρ S = some (x, S1) ∧ p x S1 = some z := by
  unfold dPrim at h
  split at h
  · exact ⟨_, _, by assumption, h⟩
  · cases h
theorem prim_go {p : PL} {f : DA} {r : List V → Hp → VK → Prop} (hp : OkL X.K p r) {F : Fm} {S S' : Sto} {H : Hp} {ρ : Ev} {σ : St} {d : DV} {Q : VK} (hk : F.K = X.K) (R : Rep F S H) (rr : RelE F ρ σ) (hf : dPrim p f ρ S = some (d, S')) (hq : PostE F S' d Q) : rdA X.K f σ H fun vs H1 => r vs H1 Q := by
  obtain ⟨x, S1, h1, h2⟩ := dPrim_some hf
  exact rdA.go hk R rr h1 fun F1 H1 v le hk1 R1 r1 rx => hp F1 S1 H1 x v d S' Q hk1 R1 rx h2 (hq.le le)
/-- anything that asks an argument list, then r -/
theorem ed_prim {es : List Expr} {r : List V → Hp → VK → Prop} {p : PL} {fa : DA} (hpe : ∀ {t : TA}, PA X es t → PE X e (tCB r t)) (hp : OkL X.K p r) (ha : AD X es fa) : ED X e (dPrim p fa) :=
  .of (hpe ha.pa) fun F S H ρ σ d S' Q hk R rr hf hq => prim_go hp hk R rr hf hq

/-! ### tuples and lists written -/
def pTup : PL := fun xs S => if xs.length ≤ sizeLine then some (.tup xs, S) else none
def pLst : PL := fun xs S => if xs.length ≤ sizeLine then some (.lst .own xs, S) else none
def pLstM : PL := fun xs S => if xs.length ≤ sizeLine then some (.loc S.length, S ++ [.lst xs]) else none
theorem of_ite {α : Type} {c : Prop} [Decidable c] {x : Option α} {z : α} (h : (if c then x else none) = some z) : c ∧ x = some z := by
  split at h
  · exact ⟨by assumption, h⟩
  · cases h
theorem new_tup {F : Fm} {S : Sto} {H : Hp} {Q : VK} {ds : List DV} {vs : List V} (R : Rep F S H) (r : RelL F ds vs) (hq : PostE F S (.tup ds) Q) : ∀ p, H p = none → Q (.ref p) (upd H p (.tup vs)) := fun p hp => by
  obtain ⟨R', le⟩ := R.add (o := .tup vs) hp
  exact hq _ _ _ le R' ⟨p, vs, rfl, upd_same, r.le le⟩
theorem new_lst {F : Fm} {S : Sto} {H : Hp} {Q : VK} {ds : List DV} {vs : List V} (R : Rep F S H) (r : RelL F ds vs) (hq : PostE F S (.lst .own ds) Q) : ∀ p, H p = none → Q (.ref p) (upd H p (.lst vs)) := fun p hp => by
  obtain ⟨R', le⟩ := R.add (o := .lst vs) hp
  exact hq _ _ _ le R' ⟨p, vs, rfl, upd_same, r.le le⟩
theorem get_len {α : Type} (l : List α) (x : α) : (l ++ [x])[l.length]? = some x := by
  rw [List.getElem?_append_right (Nat.le_refl _), Nat.sub_self]
  rfl
theorem new_lstM {F : Fm} {S : Sto} {H : Hp} {Q : VK} {ds : List DV} {vs : List V} (R : Rep F S H) (r : RelL F ds vs) (hq : PostE F (S ++ [.lst ds]) (.loc S.length) Q) : ∀ p, H p = none → Q (.ref p) (upd H p (.lst vs)) := fun p hp => by
  have R' := R.alloc (o := .lst vs) (c := .lst ds) hp (fun _ q => nomatch q) ⟨vs, upd_same, r.le (F.cell_le p)⟩
  exact hq _ _ _ (F.cell_le p) R' ⟨p, by rw [← R.len]; exact get_len _ _, rfl⟩
theorem ed_tup {es : List Expr} {fa : DA} {x1} (ha : AD X es fa) : ED X (.Tuple es x1 pos) (dPrim pTup fa) :=
  .of (pe_tup ha.pa) fun F S H ρ σ d S' Q hk R rr hf hq => prim_go (r := fun xs H1 Q => xs.length ≤ sizeLine ∧ ∀ p, H1 p = none → Q (.ref p) (upd H1 p (.tup xs))) (fun F S H xs vs d S' Q hk R rl hp hq => by
    obtain ⟨h1, h2⟩ := of_ite hp
    cases h2
    exact ⟨by rw [← rl.length]; exact h1, new_tup R rl hq⟩) hk R rr hf hq
theorem ed_lst {es : List Expr} {fa : DA} (ha : AD X es fa) : ED X (.List es pos) (dPrim pLst fa) :=
  .of (pe_lst ha.pa) fun F S H ρ σ d S' Q hk R rr hf hq => prim_go (r := fun xs H1 Q => xs.length ≤ sizeLine ∧ ∀ p, H1 p = none → Q (.ref p) (upd H1 p (.lst xs))) (fun F S H xs vs d S' Q hk R rl hp hq => by
    obtain ⟨h1, h2⟩ := of_ite hp
    cases h2
    exact ⟨by rw [← rl.length]; exact h1, new_lst R rl hq⟩) hk R rr hf hq
theorem ed_lstM {es : List Expr} {fa : DA} (ha : AD X es fa) : ED X (.List es pos) (dPrim pLstM fa) :=
  .of (pe_lst ha.pa) fun F S H ρ σ d S' Q hk R rr hf hq => prim_go (r := fun xs H1 Q => xs.length ≤ sizeLine ∧ ∀ p, H1 p = none → Q (.ref p) (upd H1 p (.lst xs))) (fun F S H xs vs d S' Q hk R rl hp hq => by
    obtain ⟨h1, h2⟩ := of_ite hp
    cases h2
    exact ⟨by rw [← rl.length]; exact h1, new_lstM R rl hq⟩) hk R rr hf hq

/-! ### statements -/
variable {st : Stmt} {sts : List Stmt}
def dNext : DS := fun ρ S => some (.nx ρ S)
def dSeq (f g : DS) : DS := fun ρ S => match f ρ S with
  | some (.nx ρ' S') => g ρ' S'
  | o => o
theorem sds_nil : SDs X [] dNext := .of pss_nil fun F S H ρ σ o D hk R rr hf hq => by
  cases (show some (Out.nx ρ S) = some o from hf)
  exact hq F H (.refl F) R σ rr
theorem seq_go {f g : DS} {F : Fm} {S : Sto} {H : Hp} {ρ : Ev} {σ : St} {o : Out} {D : Ends} {K : PySem.W.Frag} (hk : F.K = K) (R : Rep F S H) (rr : RelE F ρ σ) (hf : dSeq f g ρ S = some o) (hq : PostS F o D) : tSeq (rdS K f) (rdS K g) D σ H := by
  unfold dSeq at hf
  split at hf
  · rename_i ρ' S' h1
    exact ⟨F, S, ρ, _, hk, R, rr, h1, fun F' H' le R' σ' r' => ⟨F', S', ρ', o, le.k.trans hk, R', r', hf, hq.le le⟩⟩
  · rename_i h1
    refine ⟨F, S, ρ, o, hk, R, rr, hf, fun F' H' le R' => ?_⟩
    have := hq F' H' le R'
    cases o with
    | nx ρ' S' => exact absurd hf (h1 ρ' S')
    | rt d S' => exact this
    | bk ρ' S' => exact this
    | ct ρ' S' => exact this
theorem sds_cons {f g : DS} (h : SD X st f) (hr : SDs X sts g) : SDs X (st :: sts) (dSeq f g) :=
  .of (pss_cons h.ps hr.ps) fun F S H ρ σ o D hk R rr hf hq => seq_go hk R rr hf hq
theorem sds_one {f : DS} (h : SD X st f) : SDs X [st] f := ⟨pss_one h.ps⟩
def dBreak : DS := fun ρ S => some (.bk ρ S)
def dCont : DS := fun ρ S => some (.ct ρ S)
def dExpr (f : DE) : DS := fun ρ S => match f ρ S with
  | some (_, S') => some (.nx ρ S')
  | none => none
theorem sd_expr (h : ED X e f) (hs : swapsWith e none pos.line X.env = pure false := by rfl) : SD X (.Expr e pos) (dExpr f) :=
  .of (ps_expr h.pe hs) fun F S H ρ σ o D hk R rr hf hq => by
    unfold dExpr at hf
    split at hf
    · rename_i d S' h1
      cases hf
      exact rdE.go hk R rr h1 fun F1 H1 v le hk1 R1 r1 rv => hq F1 H1 le R1 σ r1
    · cases hf
def dRet (f : DE) : DS := fun ρ S => match f ρ S with
  | some (d, S') => some (.rt d S')
  | none => none
theorem sd_ret (h : ED X e f) : SD X (.Return (some e) pos) (dRet f) :=
  .of (ps_ret h.pe) fun F S H ρ σ o D hk R rr hf hq => by
    unfold dRet at hf
    split at hf
    · rename_i d S' h1
      cases hf
      exact rdE.go hk R rr h1 fun F1 H1 v le hk1 R1 r1 rv => hq F1 H1 le R1 v rv
    · cases hf
def dRetN : DS := fun _ S => some (.rt .non S)
def dIfS (c : DE) (f g : DS) : DS := fun ρ S => match c ρ S with
  | some (.bl true, S1) => f ρ S1
  | some (.bl false, S1) => g ρ S1
  | _ => none
theorem dIfS_some {c : DE} {f g : DS} {ρ : Ev} {S : Sto} {z : Out} (h : dIfS c f g ρ S = some z) : (∃ S1, c ρ S = some (.bl true, S1) ∧ f ρ S1 = some z) ∨ (∃ S1, c ρ S = some (.bl false, S1) ∧ g ρ S1 = some z) := by
  unfold dIfS at h
  split at h
  · exact .inl ⟨_, by assumption, h⟩
  · exact .inr ⟨_, by assumption, h⟩
  · cases h
theorem rdS.go {f : DS} {F : Fm} {S : Sto} {H : Hp} {ρ : Ev} {σ : St} {o : Out} {D : Ends} {K : PySem.W.Frag} (hk : F.K = K) (R : Rep F S H) (rr : RelE F ρ σ) (hf : f ρ S = some o) (hq : PostS F o D) : rdS K f D σ H := ⟨F, S, ρ, o, hk, R, rr, hf, hq⟩
theorem sd_if {c : Expr} {ss ts : List Stmt} {hc : DE} {f g : DS} (h1 : TD X c hc) (h2 : SDs X ss f) (h3 : SDs X ts g) : SD X (.If c ss ts pos) (dIfS hc f g) :=
  .of (ps_if h1.pt h2.ps h3.ps) fun F S H ρ σ o D hk R rr hf hq => by
    rcases dIfS_some hf with ⟨S1, h1, h2⟩ | ⟨S1, h1, h2⟩
    · refine rdT.go hk R rr h1 fun F1 H1 le hk1 R1 r1 => ?_
      rw [if_pos rfl]
      exact rdS.go hk1 R1 r1 h2 (hq.le le)
    · refine rdT.go hk R rr h1 fun F1 H1 le hk1 R1 r1 => ?_
      rw [if_neg Bool.false_ne_true]
      exact rdS.go hk1 R1 r1 h2 (hq.le le)

/-! ### targets -/
def gSet (i : Nat) : DG := fun d ρ S => some (ρ.set i (some d), S)
theorem gd_name {i : Nat} (h : PG X e (gName i)) : GD X e (gSet i) := .of h fun F S H ρ σ d v ρ' S' Q hk R rr rv hf hq => by
  cases (show some (ρ.set i (some d), S) = some (ρ', S') from hf)
  exact hq F H _ (.refl F) R (rr.set i rv)
abbrev DGs := List DV → Ev → Sto → Option (Ev × Sto)
def rdGs (K : PySem.W.Frag) (g : DGs) : TGs := fun vs σ H Q => ∃ F S ρ ds ρ' S', F.K = K ∧ Rep F S H ∧ RelE F ρ σ ∧ RelL F ds vs ∧ g ds ρ S = some (ρ', S') ∧ ∀ F' H' σ', Le F F' → Rep F' S' H' → RelE F' ρ' σ' → Q σ' H'
structure GDs (X : Cx) (es : List Expr) (g : DGs) : Prop where
  pg : PGs X es (rdGs X.K g)
theorem GDs.of {es : List Expr} {t : TGs} {g : DGs} (h : PGs X es t) (m : ∀ F S H ρ σ d v ρ' S' Q, F.K = X.K → Rep F S H → RelE F ρ σ → RelL F d v → g d ρ S = some (ρ', S') → (∀ F' H' σ', Le F F' → Rep F' S' H' → RelE F' ρ' σ' → Q σ' H') → t v σ H Q) : GDs X es g :=
  ⟨⟨fun pins s σ H v u Q I rv ⟨F, S, ρ, d, ρ', S', hk, R, r, rd, hf, hq⟩ => h.run pins s σ H v u Q I rv (m F S H ρ σ d v ρ' S' Q hk R r rd hf hq)⟩⟩
def gsNil : DGs := fun ds ρ S => match ds with
  | [] => some (ρ, S)
  | _ => none
def gsCons (g : DG) (h : DGs) : DGs := fun ds ρ S => match ds with
  | d :: r => (match g d ρ S with
    | some (ρ', S') => h r ρ' S'
    | none => none)
  | [] => none
theorem gds_nil : GDs X [] gsNil := .of pgs_nil fun F S H ρ σ d v ρ' S' Q hk R rr rv hf hq => by
  unfold gsNil at hf
  split at hf
  · cases hf
    exact ⟨rv.nil, hq F H σ (.refl F) R rr⟩
  · cases hf
theorem gds_cons {es : List Expr} {g : DG} {h : DGs} {t : TG} {u : TGs} (h1 : GD X e g) (h2 : GDs X es h) (hp : PGs X (e :: es) (gCons (rdG X.K g) (rdGs X.K h))) : GDs X (e :: es) (gsCons g h) :=
  .of hp fun F S H ρ σ d v ρ' S' Q hk R rr rv hf hq => by
    unfold gsCons at hf
    split at hf
    · rename_i d0 r
      obtain ⟨x, vr, rfl, rx, rl⟩ := rv
      split at hf
      · rename_i ρ1 S1 h1
        exact ⟨x, vr, rfl, F, S, ρ, d0, ρ1, S1, hk, R, rr, rx, h1, fun F1 H1 σ1 le R1 r1 => ⟨F1, S1, ρ1, r, ρ', S', le.k.trans hk, R1, r1, rl.le le, hf, fun F2 H2 σ2 le2 => hq F2 H2 σ2 (le.trans le2)⟩⟩
      · cases hf
    · cases hf
def gTupD (n : Nat) (h : DGs) : DG := fun d ρ S => match d with
  | .tup ds => if ds.length = n then h ds ρ S else none
  | _ => none
theorem gd_tup {n : Nat} {es : List Expr} {h : DGs} (h2 : GDs X es h) (hp : PG X e (gTup X.K n (rdGs X.K h))) : GD X e (gTupD n h) :=
  .of hp fun F S H ρ σ d v ρ' S' Q hk R rr rv hf hq => by
    unfold gTupD at hf
    split at hf
    · rename_i ds
      obtain ⟨hn, hf⟩ := of_ite hf
      obtain ⟨a, xs, rfl, hs, rl⟩ := rv
      exact ⟨a, xs, rfl, SqT.of (R.g _ _ hs), by rw [← rl.length]; exact hn, F, S, ρ, ds, ρ', S', hk, R, rr, rl, hf, hq⟩
    · cases hf
def dAsg (f : DE) (g : DG) : DS := fun ρ S => match f ρ S with
  | some (d, S1) => (match g d ρ S1 with
    | some (ρ', S2) => some (.nx ρ' S2)
    | none => none)
  | none => none
theorem asg_go {g : DG} {F : Fm} {S : Sto} {H : Hp} {ρ : Ev} {σ : St} {o : Out} {D : Ends} {K : PySem.W.Frag} (hk : F.K = K) (R : Rep F S H) (rr : RelE F ρ σ) (hf : dAsg f g ρ S = some o) (hq : PostS F o D) : tAsg (rdE K f) (rdG K g) D σ H := by
  unfold dAsg at hf
  split at hf
  · rename_i d S1 h1
    split at hf
    · rename_i ρ' S2 h2
      cases hf
      exact rdE.go hk R rr h1 fun F1 H1 v le hk1 R1 r1 rv => ⟨F1, S1, ρ, d, ρ', S2, hk1, R1, r1, rv, h2, fun F2 H2 σ2 le2 R2 r2 => hq F2 H2 (le.trans le2) R2 σ2 r2⟩
    · cases hf
  · cases hf
theorem sd_asg {g : DG} (h : PS X st (tAsg (rdE X.K f) (rdG X.K g))) : SD X st (dAsg f g) := .of h fun F S H ρ σ o D hk R rr hf hq => asg_go hk R rr hf hq
def dSet (i : Nat) (f : DE) : DS := fun ρ S => match f ρ S with
  | some (d, S1) => some (.nx (ρ.set i (some d)) S1)
  | none => none
theorem sd_set {i : Nat} (h : PS X st (tAsg (rdE X.K f) (gName i))) : SD X st (dSet i f) := .of h fun F S H ρ σ o D hk R rr hf hq => by
  unfold dSet at hf
  split at hf
  · rename_i d S1 h1
    cases hf
    exact rdE.go hk R rr h1 fun F1 H1 v le hk1 R1 r1 rv => hq F1 H1 le R1 _ (r1.set i rv)
  · cases hf

/-! ### loops -/
abbrev DI := Ev → Sto → Option (List DV × Sto)
def Walks (J : It) (F0 : Fm) (ds : List DV) : Prop := ∀ (i : Nat) F S H, Wk F0 F → PF F0 F → Rep F S H → (i = ds.length → J.stop i H) ∧ ∀ d, ds[i]? = some d → J.go i H ∧ ∀ x H', J.yld i H x H' → ∃ F', Le F F' ∧ Rep F' S H' ∧ Rel F' d x
def rdI (K : PySem.W.Frag) (f : DI) : TI := fun σ H R => ∃ F S ρ ds S', F.K = K ∧ Rep F S H ∧ RelE F ρ σ ∧ f ρ S = some (ds, S') ∧ ∀ J F' H', Le F F' → Rep F' S' H' → Walks J F' ds → R J H'
structure ID (X : Cx) (tg iter : Expr) (f : DI) : Prop where
  pi : PI X tg iter (rdI X.K f)
theorem ID.of {tg : Expr} {t : TI} {f : DI} (h : PI X tg e t) (m : ∀ F S H ρ σ ds S' Q, F.K = X.K → Rep F S H → RelE F ρ σ → f ρ S = some (ds, S') → (∀ J F' H', Le F F' → Rep F' S' H' → Walks J F' ds → Q J H') → t σ H Q) : ID X tg e f :=
  ⟨⟨fun pins s σ H Q I ⟨F, S, ρ, d, S', hk, R, r, hf, hq⟩ => h.run pins s σ H Q I (m F S H ρ σ d S' Q hk R r hf hq)⟩⟩
def forL (g : DG) (body : DS) : List DV → DS
  | [] => fun ρ S => some (.nx ρ S)
  | d :: ds => fun ρ S => match g d ρ S with
    | some (ρ1, S1) => (match body ρ1 S1 with
      | some (.nx ρ2 S2) => forL g body ds ρ2 S2
      | some (.ct ρ2 S2) => forL g body ds ρ2 S2
      | some (.bk ρ2 S2) => some (.nx ρ2 S2)
      | some (.rt v S2) => some (.rt v S2)
      | none => none)
    | none => none
def dFor (it : DI) (g : DG) (body : DS) : DS := fun ρ S => match it ρ S with
  | some (ds, S1) => forL g body ds ρ S1
  | none => none
theorem for_go {it : DI} {g : DG} {body : DS} {F : Fm} {S : Sto} {H : Hp} {ρ : Ev} {σ : St} {o : Out} {D : Ends} {K : PySem.W.Frag} (hk : F.K = K) (R : Rep F S H) (rr : RelE F ρ σ) (hf : dFor it g body ρ S = some o) (hq : PostS F o D) : tFor (rdI K it) (rdG K g) (rdS K body) D σ H := by
  unfold dFor at hf
  split at hf
  · rename_i ds S1 h1
    refine ⟨F, S, ρ, ds, S1, hk, R, rr, h1, fun J F1 H1 le1 R1 wk => ?_⟩
    refine ⟨fun i m σ H => i ≤ ds.length ∧ m = ds.length - i ∧ ∃ F' S' ρ', Le F1 F' ∧ Rep F' S' H ∧ RelE F' ρ' σ ∧ forL g body (ds.drop i) ρ' S' = some o, ⟨ds.length, Nat.zero_le _, rfl, F1, S1, ρ, .refl F1, R1, rr.le le1, by rw [List.drop_zero]; exact hf⟩, ?_⟩
    rintro i m σ H ⟨hi, rfl, F', S', ρ', le', R', r', hf'⟩
    obtain ⟨w1, w2⟩ := wk i F' S' H le'.wk le'.pf R'
    by_cases hlt : i < ds.length
    · refine .inr ?_
      have hd : ds[i]? = some ds[i] := List.getElem?_eq_getElem hlt
      obtain ⟨g1, g2⟩ := w2 _ hd
      rw [List.drop_eq_getElem_cons hlt] at hf'
      unfold forL at hf'
      refine ⟨g1, fun σ' H' => ∃ m', m' < ds.length - i ∧ (i + 1 ≤ ds.length ∧ m' = ds.length - (i + 1) ∧ ∃ F' S' ρ', Le F1 F' ∧ Rep F' S' H' ∧ RelE F' ρ' σ' ∧ forL g body (ds.drop (i + 1)) ρ' S' = some o), fun _ _ z => z, fun x H2 y => ?_⟩
      obtain ⟨F2, le2, R2, rx⟩ := g2 x H2 y
      split at hf'
      · rename_i ρ1 S3 hg
        refine ⟨F2, S', ρ', _, ρ1, S3, le2.k.trans (le'.k.trans (le1.k.trans hk)), R2, r'.le le2, rx, hg, fun F3 H3 σ3 le3 R3 r3 => ?_⟩
        have le03 : Le F1 F3 := (le'.trans le2).trans le3
        split at hf'
        · rename_i ρ2 S2 hb
          exact rdS.go (le3.k.trans (le2.k.trans (le'.k.trans (le1.k.trans hk)))) R3 r3 hb fun F4 H4 le4 R4 σ4 r4 => ⟨_, by omega, hlt, rfl, F4, S2, ρ2, le03.trans le4, R4, r4, hf'⟩
        · rename_i ρ2 S2 hb
          exact rdS.go (le3.k.trans (le2.k.trans (le'.k.trans (le1.k.trans hk)))) R3 r3 hb fun F4 H4 le4 R4 σ4 r4 => ⟨_, by omega, hlt, rfl, F4, S2, ρ2, le03.trans le4, R4, r4, hf'⟩
        · rename_i ρ2 S2 hb
          cases hf'
          exact rdS.go (le3.k.trans (le2.k.trans (le'.k.trans (le1.k.trans hk)))) R3 r3 hb fun F4 H4 le4 R4 σ4 r4 => hq F4 H4 (le1.trans (le03.trans le4)) R4 σ4 r4
        · rename_i v S2 hb
          cases hf'
          exact rdS.go (le3.k.trans (le2.k.trans (le'.k.trans (le1.k.trans hk)))) R3 r3 hb fun F4 H4 le4 R4 v rv => hq F4 H4 (le1.trans (le03.trans le4)) R4 v rv
        · cases hf'
      · cases hf'
    · have e : i = ds.length := by omega
      subst e
      rw [List.drop_length] at hf'
      cases (show some (Out.nx ρ' S') = some o from hf')
      exact .inl ⟨w1 rfl, hq F' H (le1.trans le') R' σ r'⟩
  · cases hf
theorem sd_for {it : DI} {g : DG} {body : DS} (h : PS X st (tFor (rdI X.K it) (rdG X.K g) (rdS X.K body))) : SD X st (dFor it g body) := .of h fun F S H ρ σ o D hk R rr hf hq => for_go hk R rr hf hq
end
end Dn

namespace Dn
open PySem PySem.Spec PyProof.Rows L2

/-! ### copies: cells to values -/
mutual
def mapD (bor : Bool) (h : Nat → Option DV) : DV → Option DV
  | .loc n => h n
  | .tup ds => match mapDL bor h ds with
    | some es => some (.tup es)
    | none => none
  | .tupx ds => match mapDL bor h ds with
    | some es => some (.tupx es)
    | none => none
  | .lst k ds => if k = .bor ∧ bor = false then none else match mapDL bor h ds with
    | some es => some (.lst k es)
    | none => none
  | .dik k ks ds => if k ≠ .own ∧ bor = false then none else match mapDL bor h ds with
    | some es => some (.dik k ks es)
    | none => none
  | .dit k ks ds => if k ≠ .own ∧ bor = false then none else match mapDL bor h ds with
    | some es => some (.dit k ks es)
    | none => none
  | .exc _ _ _ => none
  | .non => some .non
  | .bl b => some (.bl b)
  | .int i => some (.int i)
  | .str s => some (.str s)
def mapDL (bor : Bool) (h : Nat → Option DV) : List DV → Option (List DV)
  | [] => some []
  | d :: ds => match mapD bor h d with
    | some e => (match mapDL bor h ds with
      | some es => some (e :: es)
      | none => none)
    | none => none
end
def bk (bor : Bool) : LK := if bor then .bor else .own
def cpN (bor : Bool) : Nat → Sto → Nat → Option DV
  | 0, _, _ => none
  | k + 1, S, n => match S[n]? with
    | some (.lst ds) => (match mapDL bor (cpN bor k S) ds with
      | some es => some (.lst (bk bor) es)
      | none => none)
    | some (.dik ks ds) => (match mapDL bor (cpN bor k S) ds with
      | some es => some (.dik (bk bor) ks es)
      | none => none)
    | some (.dit ks ds) => (match mapDL bor (cpN bor k S) ds with
      | some es => some (.dit (bk bor) ks es)
      | none => none)
    | some (.frz d) => mapD bor (cpN bor k S) d
    | _ => none
/-- as a value: borrowed (bor), or frozen -/
def cpD (bor : Bool) (S : Sto) (d : DV) : Option DV := mapD bor (cpN bor (S.length + 1) S) d
def cpL (bor : Bool) (S : Sto) (ds : List DV) : Option (List DV) := mapDL bor (cpN bor (S.length + 1) S) ds

structure CpTo (bor : Bool) (F F2 : Fm) : Prop where
  k : F2.K = F.K
  g : Same F.G F2.G
  b : bor = true → Same F.B F2.B
mutual
theorem mapD_rel {bor : Bool} {h : Nat → Option DV} {F F2 : Fm} (c : CpTo bor F F2) (hh : ∀ n d a, h n = some d → F.lm[n]? = some a → Rel F2 d (.ref a)) : ∀ (d d' : DV) (v : V), mapD bor h d = some d' → Rel F d v → Rel F2 d' v
  | .loc n, d', v, e, r => by
    obtain ⟨a, h1, rfl⟩ := r
    exact hh n d' a e h1
  | .tup ds, d', v, e, r => by
    obtain ⟨a, xs, rfl, hs, hl⟩ := r
    unfold mapD at e
    split at e
    · rename_i es he
      cases e
      exact ⟨a, xs, rfl, c.g _ _ hs, mapDL_rel c hh ds es xs he hl⟩
    · cases e
  | .tupx ds, d', v, e, r => by
    obtain ⟨a, xs, rfl, hs, hl⟩ := r
    unfold mapD at e
    split at e
    · rename_i es he
      cases e
      exact ⟨a, xs, rfl, by rw [c.k]; exact sqN_same c.g hs, mapDL_rel c hh ds es xs he hl⟩
    · cases e
  | .lst k ds, d', v, e, r => by
    unfold mapD at e
    split at e
    · cases e
    · rename_i hn
      split at e
      · rename_i es he
        cases e
        cases k with
        | own =>
          obtain ⟨a, xs, rfl, hs, hl⟩ := r
          exact ⟨a, xs, rfl, c.g _ _ hs, mapDL_rel c hh ds es xs he hl⟩
        | bor =>
          obtain ⟨a, xs, rfl, hs, hl⟩ := r
          have hb : bor = true := by
            cases bor with
            | true => rfl
            | false => exact absurd ⟨rfl, rfl⟩ hn
          exact ⟨a, xs, rfl, hs.elim (fun h => .inl (c.b hb _ _ h)) fun h => .inr (c.g _ _ h), mapDL_rel c hh ds es xs he hl⟩
        | ext =>
          obtain ⟨a, xs, rfl, hs, hl⟩ := r
          exact ⟨a, xs, rfl, by rw [c.k]; exact sqL_same c.g hs, mapDL_rel c hh ds es xs he hl⟩
      · cases e
  | .dik k ks ds, d', v, e, r => by
    unfold mapD at e
    split at e
    · cases e
    · rename_i hn
      split at e
      · rename_i es he
        cases e
        obtain ⟨a, xs, rfl, hz, hs, hl⟩ := r
        have hl2 := mapDL_rel c hh ds es xs he hl
        refine ⟨a, xs, rfl, hz.trans (hl.length.trans hl2.length.symm), hs.elim (fun h => .inl (c.g _ _ h)) fun h => .inr ⟨h.1, c.b ?_ _ _ h.2⟩, hl2⟩
        cases bor with
        | true => rfl
        | false => exact absurd ⟨h.1, rfl⟩ hn
      · cases e
  | .dit k ks ds, d', v, e, r => by
    unfold mapD at e
    split at e
    · cases e
    · rename_i hn
      split at e
      · rename_i es he
        cases e
        obtain ⟨a, xs, rfl, hz, hs, hl⟩ := r
        have hl2 := mapDL_rel c hh ds es xs he hl
        refine ⟨a, xs, rfl, hz.trans (hl.length.trans hl2.length.symm), hs.elim (fun h => .inl (c.g _ _ h)) fun h => .inr ⟨h.1, c.b ?_ _ _ h.2⟩, hl2⟩
        cases bor with
        | true => rfl
        | false => exact absurd ⟨h.1, rfl⟩ hn
      · cases e
  | .non, d', v, e, r => by
    cases (show some DV.non = some d' from e)
    exact r
  | .bl b, d', v, e, r => by
    cases (show some (DV.bl b) = some d' from e)
    exact r
  | .int b, d', v, e, r => by
    cases (show some (DV.int b) = some d' from e)
    exact r
  | .str b, d', v, e, r => by
    cases (show some (DV.str b) = some d' from e)
    exact r
theorem mapDL_rel {bor : Bool} {h : Nat → Option DV} {F F2 : Fm} (c : CpTo bor F F2) (hh : ∀ n d a, h n = some d → F.lm[n]? = some a → Rel F2 d (.ref a)) : ∀ (ds es : List DV) (vs : List V), mapDL bor h ds = some es → RelL F ds vs → RelL F2 es vs
  | [], es, vs, e, r => by
    cases (show some ([] : List DV) = some es from e)
    exact r
  | d :: ds, es, vs, e, r => by
    obtain ⟨x, xr, rfl, h1, h2⟩ := r
    unfold mapDL at e
    split at e
    · rename_i e1 he1
      split at e
      · rename_i es1 hes1
        cases e
        exact ⟨x, xr, rfl, mapD_rel c hh d e1 x he1 h1, mapDL_rel c hh ds es1 xr hes1 h2⟩
      · cases e
    · cases e
end
theorem cpN_rel {bor : Bool} {F F2 : Fm} {S : Sto} {H : Hp} (c : CpTo bor F F2) (R : Rep F S H)
    (hl : ∀ (n : Nat) (c : Cell) (a : Addr) (o : HO), S[n]? = some c → c.live = true → F.lm[n]? = some a → H a = some o → if bor then F2.B a = some o else F2.G a = some o) :
    ∀ (k n : Nat) (d : DV) (a : Addr), cpN bor k S n = some d → F.lm[n]? = some a → Rel F2 d (.ref a)
  | 0, n, d, a, e, _ => by cases e
  | k + 1, n, d, a, e, ha => by
    have ih := cpN_rel c R hl k
    unfold cpN at e
    split at e
    · rename_i ds hc
      obtain ⟨⟨xs, e2, hr⟩, _⟩ := R.cell n _ a hc ha
      have q := hl n _ a _ hc rfl ha e2
      split at e
      · rename_i es he
        cases e
        have hl2 := mapDL_rel c ih ds es xs he hr
        cases bor with
        | true => exact ⟨a, xs, rfl, .inl q, hl2⟩
        | false => exact ⟨a, xs, rfl, q, hl2⟩
      · cases e
    · rename_i ks ds hc
      obtain ⟨⟨xs, hz, e2, hr⟩, _⟩ := R.cell n _ a hc ha
      have q := hl n _ a _ hc rfl ha e2
      split at e
      · rename_i es he
        cases e
        have hl2 := mapDL_rel c ih ds es xs he hr
        have hz2 := hz.trans (hr.length.trans hl2.length.symm)
        cases bor with
        | true => exact ⟨a, xs, rfl, hz2, .inr ⟨(fun z => nomatch z), q⟩, hl2⟩
        | false => exact ⟨a, xs, rfl, hz2, .inl q, hl2⟩
      · cases e
    · rename_i ks ds hc
      obtain ⟨⟨xs, hz, e2, hr⟩, _⟩ := R.cell n _ a hc ha
      have q := hl n _ a _ hc rfl ha e2
      split at e
      · rename_i es he
        cases e
        have hl2 := mapDL_rel c ih ds es xs he hr
        have hz2 := hz.trans (hr.length.trans hl2.length.symm)
        cases bor with
        | true => exact ⟨a, xs, rfl, hz2, .inr ⟨(fun z => nomatch z), q⟩, hl2⟩
        | false => exact ⟨a, xs, rfl, hz2, .inl q, hl2⟩
      · cases e
    · rename_i d0 hc
      obtain ⟨hr, _⟩ := R.cell n _ a hc ha
      exact mapD_rel c ih d0 d (.ref a) e hr
    · cases e
/-- all arguments as borrowed values -/
theorem cpL_bor {F : Fm} {S : Sto} {H : Hp} (R : Rep F S H) {ds es : List DV} {vs : List V} (e : cpL true S ds = some es) (r : RelL F ds vs) : RelL ⟨F.K, F.G, H, fun _ => none, []⟩ es vs :=
  have c : CpTo true F ⟨F.K, F.G, H, fun _ => none, []⟩ := ⟨rfl, Same.refl _, fun _ => R.b⟩
  mapDL_rel c (cpN_rel c R (fun n c a o h l e1 e2 => by rw [if_pos rfl]; exact e2) _) ds es vs e r
theorem rep_empty {F : Fm} {S : Sto} {H : Hp} (R : Rep F S H) : Rep ⟨F.K, F.G, H, fun _ => none, []⟩ [] H :=
  ⟨R.g, Same.refl _, (fun _ _ q => nomatch q), R.tup, rfl, fun n c a h _ => by simp at h, fun n m c c' a h => by simp at h⟩

/-! ### defs -/
def runF (np n : Nat) (body : DS) : PL := fun ds S => if ds.length = np then (match body (ds.map some ++ List.replicate (n - ds.length) none) S with
  | some (.rt d S') => some (d, S')
  | some (.nx _ S') => some (.non, S')
  | _ => none) else none
def spS (K : PySem.W.Frag) (np : Nat) (f : PL) : Sp := fun vs H Q _ => ∃ F S ds d S', F.K = K ∧ Rep F S H ∧ RelL F ds vs ∧ ds.length = np ∧ f ds S = some (d, S') ∧ PostE F S' d Q
theorem relE_start {F : Fm} {ds : List DV} {vs : List V} (r : RelL F ds vs) (N : List Str) : RelE F (ds.map some ++ List.replicate (N.length - ds.length) none) (L2.start N vs) := by
  have hl := r.length
  refine ⟨by unfold L2.start; simp [hl], fun i d e => ?_⟩
  unfold L2.start
  by_cases q : i < ds.length
  · rw [List.getElem?_append_left (by simpa using q)] at e
    rw [List.getElem?_append_left (by simp; omega)]
    rw [List.getElem?_map] at e
    cases e2 : ds[i]? with
    | none =>
      rw [e2] at e
      cases e
    | some d2 =>
      rw [e2] at e
      have e3 : d2 = d := Option.some.inj (Option.some.inj e)
      subst e3
      obtain ⟨v, e4, e5⟩ := r.get e2
      exact ⟨v, by rw [List.getElem?_map, e4] <;> rfl, e5⟩
  · rw [List.getElem?_append_right (by simp; omega)] at e
    have := List.getElem?_eq_some_iff.mp e
    obtain ⟨h1, h2⟩ := this
    rw [List.getElem_replicate] at h2
    cases h2
section
variable {P : Program} {w : World} {K : PySem.W.Frag} {mg : Str → Option Value} {base : Heap} {x qual : Str} {params : Arguments} {body : List Stmt} {scope : Scope} {dvs : List V} {kws : List (Str × V)} {f : Addr} {fd : FuncData}
/-- a def whose body is known as a denotation -/
theorem fn_ok {N ps : List Str} {k : Nat} {b : DS} (F : FunD K x qual params body scope dvs kws f fd) (S : FnScope N ps scope)
    (hb : ∀ (cdv : Value) (A : Around) (outer : List Env) (s : Shared) (H : Hp) (E : XK), Room k (A.deeper (envOfC qual scope s.heap.objs.size f cdv)) → SDs (cxOf CX0 P w K mg base N qual scope f cdv A outer s H E).nox body b) :
    FnOk P w K mg base CX0 (k + 1) f fd ps (spS K ps.length (runF ps.length N.length b)) := by
  refine F.ok S (fun vs H Q E h => ?_) (fun cdv A outer s H vs Q E hr h => ?_)
  · obtain ⟨F, S, ds, d, S', hk, R, r, hn, _⟩ := h
    rw [← r.length, hn]
  · refine ⟨_, (hb cdv A outer s H E hr).ps.nox, ?_⟩
    obtain ⟨F, S, ds, d, S', hk, R, r, hn, e, hq⟩ := h
    unfold runF at e
    rw [if_pos hn] at e
    split at e
    · rename_i d' S2 h1
      cases e
      exact ⟨F, S, _, _, hk, R, relE_start r N, h1, fun F' H' le R' v rv => hq F' H' v le R' rv⟩
    · rename_i ρ' S2 h1
      cases e
      exact ⟨F, S, _, _, hk, R, relE_start r N, h1, fun F' H' le R' σ' _ => hq F' H' .non le R' rfl⟩
    · cases e
end

/-! ### calls -/
theorem runF_len {np n : Nat} {b : DS} : ∀ xs S z, runF np n b xs S = some z → xs.length = np := fun xs S z h => by
  unfold runF at h
  exact (of_ite h).1
/-- a call with a store of its own: a function of the arguments' values -/
def pureOf (f : PL) : List DV → Option DV := fun ds => match f ds [] with
  | some (d, S') => cpD false S' d
  | none => none
def cP (p : List DV → Option DV) (dds : List DV) : PL := fun xs S => match cpL true S (xs ++ dds) with
  | some ys => (match p ys with
    | some d => some (d, S)
    | none => none)
  | none => none
/-- behind a call with a store of its own: all new objects are frozen -/
def newG (G H H' : Hp) : Hp := fun a => match G a with
  | some o => some o
  | none => if H a = none then H' a else none
theorem newG_same {G H H' : Hp} : Same G (newG G H H') := fun a o e => by
  unfold newG
  rw [e]
theorem after_pure {F Fc : Fm} {S S' : Sto} {H H' : Hp} (R : Rep F S H) (le : Le ⟨F.K, F.G, H, fun _ => none, []⟩ Fc) (R' : Rep Fc S' H') {ex : Addr → Prop} [DecidablePred ex] (hex : ∀ a, ex a → Fc.G a = none ∧ H a = none) (hexT : ∀ a xs, ex a → H' a ≠ some (.tup xs)) :
    Rep { F with G := fun a => if ex a then none else newG Fc.G H H' a } S H' ∧ Le F { F with G := fun a => if ex a then none else newG Fc.G H H' a } := by
  have hB : Fc.B = H := le.b
  have sHH : Same H H' := by
    have := R'.b
    rw [hB] at this
    exact this
  have sG : Same F.G (fun a => if ex a then none else newG Fc.G H H' a) := fun a o e => by
    have e1 : Fc.G a = some o := le.g _ _ e
    by_cases q : ex a
    · rw [(hex a q).1] at e1
      cases e1
    · show (if ex a then none else newG Fc.G H H' a) = some o
      rw [if_neg q]
      exact newG_same _ _ e1
  have at_ : ∀ a o, (if ex a then none else newG Fc.G H H' a) = some o → (Fc.G a = some o ∨ (H a = none ∧ H' a = some o)) := fun a o e => by
    by_cases q : ex a
    · rw [if_pos q] at e
      cases e
    · rw [if_neg q] at e
      unfold newG at e
      split at e
      · rename_i o' h1
        cases e
        exact .inl h1
      · split at e
        · exact .inr ⟨by assumption, e⟩
        · cases e
  refine ⟨⟨fun a o e => ?_, fun a o e => sHH _ _ (R.b _ _ e), fun a o e => sHH _ _ (R.p _ _ e), fun a xs e => ?_, R.len, fun n c a h e => ?_, R.inj⟩, ⟨rfl, rfl, rfl, sG, fun a o e => ?_, List.prefix_refl _⟩⟩
  · rcases at_ a o e with h | ⟨_, h⟩
    · exact R'.g _ _ h
    · exact h
  · have h1 := R'.tup _ _ e
    show (if ex a then none else newG Fc.G H H' a) = _
    rw [if_neg fun q => hexT a xs q e]
    exact newG_same _ _ h1
  · obtain ⟨k1, k2⟩ := R.cell n c a h e
    have wk1 : Wk F { F with G := fun a => if ex a then none else newG Fc.G H H' a } := ⟨rfl, Same.refl _, sG, List.prefix_refl _⟩
    refine ⟨CellOk.wk (F := F) wk1 (fun _ _ _ e => e) k1 fun l => ?_, fun l => ⟨?_, (k2 l).2⟩⟩
    · obtain ⟨o, e1, _⟩ := k1.some l
      rw [e1]
      exact sHH _ _ e1
    · obtain ⟨o, e1, _⟩ := k1.some l
      show (if ex a then none else newG Fc.G H H' a) = none
      cases q : (if ex a then none else newG Fc.G H H' a) with
      | none => rfl
      | some u =>
        rcases at_ a u q with h | ⟨h, _⟩
        · rcases le.n a u h with h2 | h2
          · have h3 : F.G a = some u := h2
            rw [(k2 l).1] at h3
            cases h3
          · have h3 : H a = none := h2.1
            rw [e1] at h3
            cases h3
        · rw [e1] at h
          cases h
  · rcases at_ a o e with h | ⟨h, _⟩
    · rcases le.n a o h with h2 | h2
      · exact .inl h2
      · have h3 : H a = none := h2.1
        exact .inr ⟨R.b.free h3, R.p.free h3⟩
    · exact .inr ⟨R.b.free h, R.p.free h⟩
theorem ok_cP {K : PySem.W.Frag} {np : Nat} {f : PL} {dds : List DV} {dvs : List V} {E : XK} (hd : ∀ F : Fm, RelL F dds dvs) (hn : ∀ xs S z, f xs S = some z → xs.length = np) : OkL K (cP (pureOf f) dds) (fun vs H Q => spS K np f (vs ++ dvs) H Q E) :=
  fun F S H xs vs d S' Q hk R r hp hq => by
    unfold cP at hp
    split at hp
    · rename_i ys hy
      split at hp
      · rename_i d0 hp0
        cases hp
        unfold pureOf at hp0
        split at hp0
        · rename_i d1 S1 hf
          refine ⟨⟨F.K, F.G, H, fun _ => none, []⟩, [], ys, d1, S1, hk, rep_empty R, cpL_bor R hy (r.append (hd F)), hn _ _ _ hf, hf, fun Fc H' v le R' rv => ?_⟩
          obtain ⟨R2, le2⟩ := after_pure R le R' (ex := fun _ => False) (fun _ q => q.elim) (fun _ _ q => q.elim)
          refine hq _ _ v le2 R2 ?_
          have hB : Fc.B = H := le.b
          have c : CpTo false Fc { F with G := fun a => if False then none else newG Fc.G H H' a } := ⟨le.k.symm, fun a o e => newG_same _ _ e, fun q => nomatch q⟩
          refine mapD_rel c (cpN_rel c R' (fun n cc a o h l e1 e2 => ?_) _) d1 d v hp0 rv
          rw [if_neg Bool.false_ne_true]
          obtain ⟨_, k2⟩ := R'.cell n cc a h e1
          obtain ⟨ga, ba⟩ := k2 l
          show newG Fc.G H H' a = some o
          unfold newG
          rw [ga]
          show (if H a = none then H' a else none) = some o
          rw [← hB, if_pos ba.1, e2]
        · cases hp0
      · cases hp
    · cases hp
def cM (p : List DV → Option (List DV)) (dds : List DV) : PL := fun xs S => match cpL true S (xs ++ dds) with
  | some ys => (match p ys with
    | some es => some (.loc S.length, S ++ [.lst es])
    | none => none)
  | none => none
section
variable {X : Cx} {e : Expr}
theorem ed_call {es : List Expr} {sp : Sp} {dvs : List V} {E : XK} {p : PL} {fa : DA} (hpe : ∀ {t : TA}, PA X es t → PE X e (tCall sp dvs E t)) (hp : OkL X.K p (fun vs H Q => sp (vs ++ dvs) H Q E)) (ha : AD X es fa) : ED X e (dPrim p fa) :=
  .of (hpe ha.pa) fun F S H ρ σ d S' Q hk R rr hf hq => prim_go hp hk R rr hf hq
end
end Dn

namespace Dn
open PySem PySem.Spec PyProof.Rows L2

/-! ### comprehensions -/
theorem wipe_get {σ : L2.St} : ∀ {vs : List Nat} {j : Nat}, (wipe σ vs)[j]? = if j ∈ vs then (σ[j]?).map (fun _ => none) else σ[j]?
  | [], j => by rw [if_neg (by simp)] <;> rfl
  | v :: vs, j => by
    unfold wipe
    by_cases q : v = j
    · subst q
      rw [if_pos (by simp)]
      by_cases hv : v < σ.length
      · rw [List.getElem?_set_self (by rw [wipe_length]; exact hv), List.getElem?_eq_getElem hv] <;> rfl
      · rw [List.getElem?_eq_none (by rw [List.length_set, wipe_length]; omega), List.getElem?_eq_none (by omega)] <;> rfl
    · rw [List.getElem?_set_ne q, wipe_get (vs := vs)]
      by_cases hm : j ∈ vs
      · rw [if_pos hm, if_pos (by simp [hm])]
      · rw [if_neg hm, if_neg (by simp [hm]; exact fun z => q z.symm)]
theorem wipe_set {σ : L2.St} {vs : List Nat} {i : Nat} {x : Option V} (h : i ∈ vs) : wipe (σ.set i x) vs = wipe σ vs := by
  apply List.ext_getElem?
  intro j
  rw [wipe_get, wipe_get]
  by_cases q : i = j
  · subst q
    rw [if_pos h, if_pos h]
    by_cases hl : i < σ.length
    · rw [List.getElem?_set_self hl, List.getElem?_eq_getElem hl] <;> rfl
    · rw [List.getElem?_eq_none (by simp; omega), List.getElem?_eq_none (by omega)]
  · rw [List.getElem?_set_ne q]
theorem wipe_wipe {σ : L2.St} {vs : List Nat} : wipe (wipe σ vs) vs = wipe σ vs := by
  apply List.ext_getElem?
  intro j
  rw [wipe_get, wipe_get]
  by_cases h : j ∈ vs
  · rw [if_pos h, if_pos h, Option.map_map] <;> rfl
  · rw [if_neg h]
def dwipe (ρ : Ev) : List Nat → Ev
  | [] => ρ
  | v :: vs => (dwipe ρ vs).set v none
theorem relE_wipe {F : Fm} {ρ : Ev} {σ : L2.St} (r : RelE F ρ σ) : ∀ vs : List Nat, RelE F (dwipe ρ vs) (wipe σ vs)
  | [] => r
  | v :: vs => by
    have ih := relE_wipe r vs
    unfold dwipe wipe
    refine ⟨by simp [ih.len], fun j d e => ?_⟩
    by_cases q : v = j
    · subst q
      have hlt := (List.getElem?_eq_some_iff.mp e).1
      rw [List.length_set] at hlt
      rw [List.getElem?_set_self hlt] at e
      cases e
    · rw [List.getElem?_set_ne q] at e ⊢
      exact ih.at_ j d e
/-- a target of names alone: the heap stays, only the slots vs are set -/
def GW (K : PySem.W.Frag) (t : TG) (g : DG) (vs : List Nat) : Prop := ∀ F S H ρ σ d v ρ' S' (Q : L2.St → Hp → Prop), F.K = K → Rep F S H → RelE F ρ σ → Rel F d v → g d ρ S = some (ρ', S') → (∀ σ', S' = S → RelE F ρ' σ' → wipe σ' vs = wipe σ vs → Q σ' H) → t v σ H Q
theorem gw_name {K : PySem.W.Frag} {i : Nat} {vs : List Nat} (h : i ∈ vs) : GW K (gName i) (gSet i) vs := fun F S H ρ σ d v ρ' S' Q hk R rr rv hf hq => by
  cases (show some (ρ.set i (some d), S) = some (ρ', S') from hf)
  exact hq _ rfl (rr.set i rv) (wipe_set h)
def GWs (K : PySem.W.Frag) (t : TGs) (g : DGs) (vs : List Nat) : Prop := ∀ F S H ρ σ d v ρ' S' (Q : L2.St → Hp → Prop), F.K = K → Rep F S H → RelE F ρ σ → RelL F d v → g d ρ S = some (ρ', S') → (∀ σ', S' = S → RelE F ρ' σ' → wipe σ' vs = wipe σ vs → Q σ' H) → t v σ H Q
theorem gws_nil {K : PySem.W.Frag} {vs : List Nat} : GWs K gNil gsNil vs := fun F S H ρ σ d v ρ' S' Q hk R rr rv hf hq => by
  unfold gsNil at hf
  split at hf
  · cases hf
    exact ⟨rv.nil, hq σ rfl rr rfl⟩
  · cases hf
theorem gws_cons {K : PySem.W.Frag} {vs : List Nat} {t : TG} {u : TGs} {g : DG} {h : DGs} (h1 : GW K t g vs) (h2 : GWs K u h vs) : GWs K (gCons t u) (gsCons g h) vs := fun F S H ρ σ d v ρ' S' Q hk R rr rv hf hq => by
  unfold gsCons at hf
  split at hf
  · rename_i d0 r
    obtain ⟨x, vr, rfl, rx, rl⟩ := rv
    split at hf
    · rename_i ρ1 S1 e1
      refine ⟨x, vr, rfl, h1 F S H ρ σ d0 x ρ1 S1 _ hk R rr rx e1 fun σ1 hS r1 w1 => ?_⟩
      subst hS
      exact h2 F S1 H ρ1 σ1 r vr ρ' S' Q hk R r1 rl hf fun σ2 hS2 r2 w2 => hq σ2 hS2 r2 (w2.trans w1)
    · cases hf
  · cases hf
theorem gw_tup {K : PySem.W.Frag} {vs : List Nat} {n : Nat} {u : TGs} {h : DGs} (h2 : GWs K u h vs) : GW K (gTup K n u) (gTupD n h) vs := fun F S H ρ σ d v ρ' S' Q hk R rr rv hf hq => by
  unfold gTupD at hf
  split at hf
  · rename_i ds
    obtain ⟨hn, hf⟩ := of_ite hf
    obtain ⟨a, xs, rfl, hs, rl⟩ := rv
    exact ⟨a, xs, rfl, SqT.of (R.g _ _ hs), by rw [← rl.length]; exact hn, h2 F S H ρ σ ds xs ρ' S' Q hk R rr rl hf hq⟩
  · cases hf
theorem GW.gd {X : Cx} {e : Expr} {t : TG} {g : DG} {vs : List Nat} (h : GW X.K t g vs) (hp : PG X e t) : GD X e g := .of hp fun F S H ρ σ d v ρ' S' Q hk R rr rv hf hq =>
  h F S H ρ σ d v ρ' S' Q hk R rr rv hf fun σ' hS r _ => by
    subst hS
    exact hq F H σ' (.refl F) R r

def lcL (g : DG) (c fe : DE) (ρ : Ev) : List DV → Sto → Option (List DV × Sto)
  | [], S => some ([], S)
  | d :: ds, S => match g d ρ S with
    | some (ρ1, S1) => (match c ρ1 S1 with
      | some (.bl true, S2) => (match fe ρ1 S2 with
        | some (y, S3) => (match lcL g c fe ρ ds S3 with
          | some (ys, S4) => some (y :: ys, S4)
          | none => none)
        | none => none)
      | some (.bl false, S2) => lcL g c fe ρ ds S2
      | _ => none)
    | none => none
def lcR (it : DI) (g : DG) (c fe : DE) (vs : List Nat) : DA := fun ρ S => match it ρ S with
  | some (ds, S1) => (match lcL g c fe (dwipe ρ vs) ds S1 with
    | some (ys, S2) => if ys.length ≤ sizeLine then some (ys, S2) else none
    | none => none)
  | none => none
def dLc (it : DI) (g : DG) (c fe : DE) (vs : List Nat) : DE := fun ρ S => match lcR it g c fe vs ρ S with
  | some (ys, S2) => some (.lst .own ys, S2)
  | none => none
def dLcM (it : DI) (g : DG) (c fe : DE) (vs : List Nat) : DE := fun ρ S => match lcR it g c fe vs ρ S with
  | some (ys, S2) => some (.loc S2.length, S2 ++ [.lst ys])
  | none => none
def NoCell (F : Fm) (S : Sto) (D : Addr) : Prop := ∀ (n : Nat) (c : Cell), S[n]? = some c → c.live = true → F.lm[n]? ≠ some D
abbrev Fm.prot (F : Fm) (P : Hp) : Fm := { F with P := P }
theorem Rep.prot {F : Fm} {S : Sto} {H : Hp} (R : Rep F S H) {P : Hp} (hP : Same P H) (pf : ∀ a o u, F.P a = some (.frz o u) → P a = some (.frz o u)) (hc : ∀ (n : Nat) (c : Cell) (a : Addr), S[n]? = some c → c.live = true → F.lm[n]? = some a → P a = none) : Rep (F.prot P) S H :=
  ⟨R.g, R.b, hP, R.tup, R.len, fun n c a h e => ⟨CellOk.wk (F := F) (F' := F.prot P) (⟨rfl, Same.refl F.B, Same.refl F.G, List.prefix_refl F.lm⟩ : Wk F (F.prot P)) pf (R.cell n c a h e).1 fun _ => rfl, fun l => ⟨((R.cell n c a h e).2 l).1, ((R.cell n c a h e).2 l).2.1, hc n c a h l e⟩⟩, R.inj⟩
/-- an object that no data leans on is changed -/
theorem Rep.over {F : Fm} {S : Sto} {H : Hp} (R : Rep F S H) {D : Addr} {o : HO} (gD : F.G D = none) (fD : F.free D) (nc : NoCell F S D) (ht : ∀ xs, o ≠ .tup xs) : Rep F S (upd H D o) := by
  refine ⟨same_mono R.g gD, same_mono R.b fD.1, same_mono R.p fD.2, fun a xs e => ?_, R.len, fun n c a h e => ?_, R.inj⟩
  · by_cases q : a = D
    · rw [q, upd_same] at e
      exact absurd (Option.some.inj e) (ht xs)
    · rw [upd_ne q] at e
      exact R.tup _ _ e
  · obtain ⟨k1, k2⟩ := R.cell n c a h e
    exact ⟨k1.wk (Le.refl F).wk (Le.refl F).pf fun l => upd_ne fun q => nc n c h l (by rw [← q]; exact e), k2⟩
/-- an object that is there becomes frozen data -/
theorem Rep.adopt {F : Fm} {S : Sto} {H : Hp} (R : Rep F S H) {p : Addr} {o : HO} (hp : H p = some o) (gp : F.G p = none) (fp : F.free p) (nc : NoCell F S p) : Rep (F.add p o) S H ∧ Le F (F.add p o) := by
  have le := Fm.add_le (F := F) (o := o) gp fp
  refine ⟨⟨fun a u e => ?_, R.b, R.p, fun a xs e => ?_, R.len, fun n c a h e => ?_, R.inj⟩, le⟩
  · have e2 : upd F.G p o a = some u := e
    by_cases q : a = p
    · rw [q, upd_same] at e2
      rw [q, hp]
      exact e2
    · rw [upd_ne q] at e2
      exact R.g _ _ e2
  · show upd F.G p o a = _
    by_cases q : a = p
    · rw [q, upd_same, ← hp, ← q]
      exact e
    · rw [upd_ne q]
      exact R.tup _ _ e
  · obtain ⟨k1, k2⟩ := R.cell n c a h e
    refine ⟨k1.wk le.wk le.pf fun _ => rfl, fun l => ⟨?_, (k2 l).2⟩⟩
    show upd F.G p o a = none
    rw [upd_ne fun q => nc n c h l (by rw [← q]; exact e)]
    exact (k2 l).1
theorem lc_go {K : PySem.W.Frag} {it : DI} {g : DG} {c fe : DE} {vs : List Nat} {t : TG} {tt : TT} (hg : GW K t g vs) (hc : ∀ σ H Q, rdT K c σ H Q → tt σ H Q) {F : Fm} {S S2 : Sto} {H : Hp} {ρ : Ev} {σ : L2.St} {ys : List DV} {Q : VK}
    (hk : F.K = K) (R : Rep F S H) (rr : RelE F ρ σ) (hf : lcR it g c fe vs ρ S = some (ys, S2))
    (hq : ∀ F' H' D xs, Le F F' → Rep F' S2 H' → H' D = some (.lst xs) → RelL F' ys xs → F'.G D = none → F'.free D → NoCell F' S2 D → Q (.ref D) H') : tLc (rdI K it) t tt (rdE K fe) vs σ H Q := by
  unfold lcR at hf
  split at hf
  · rename_i ds S1 h1
    split at hf
    · rename_i ys' S2' h2
      obtain ⟨hsz, hf⟩ := of_ite hf
      cases hf
      refine ⟨F, S, ρ, ds, S1, hk, R, rr, h1, fun J F1 H1 le1 R1 wk D hD => ?_⟩
      have r1 := rr.le le1
      refine ⟨fun i m H => i ≤ ds.length ∧ m = ds.length - i ∧ ∃ F' S' acc accV rest, Le F1 F' ∧ Rep F' S' H ∧ H D = some (.lst accV) ∧ RelL F' acc accV ∧ F'.G D = none ∧ F'.free D ∧ NoCell F' S' D ∧ lcL g c fe (dwipe ρ vs) (ds.drop i) S' = some (rest, S2) ∧ ys = acc ++ rest,
        ⟨ds.length, Nat.zero_le _, rfl, F1, S1, [], [], ys, .refl F1, R1.beside hD (fun _ q => nomatch q), upd_same, rfl, R1.g.free hD, ⟨R1.b.free hD, R1.p.free hD⟩, R1.noCell hD, by rw [List.drop_zero]; exact h2, rfl⟩, ?_⟩
      rintro i m H ⟨hi, rfl, F', S', acc, accV, rest, le', R', eD, ra, gD, fD, nc, hl, ey⟩
      have Pw : Wk F' (F'.prot (upd F'.P D (.lst accV))) := ⟨rfl, Same.refl _, Same.refl _, List.prefix_refl _⟩
      have Rp : Rep (F'.prot (upd F'.P D (.lst accV))) S' H := by
        refine R'.prot (fun a o e => ?_) (fun a o u e => by
          show upd F'.P D (.lst accV) a = _
          rw [upd_ne fun q => by rw [q, fD.2] at e; cases e]
          exact e) fun n c a h l e => ?_
        · by_cases q : a = D
          · rw [q, upd_same] at e
            rw [q, eD]
            exact e
          · rw [upd_ne q] at e
            exact R'.p _ _ e
        · rw [upd_ne fun q => nc n c h l (by rw [← q]; exact e)]
          exact ((R'.cell n c a h e).2 l).2.2
      have wk1 : Wk F1 (F'.prot (upd F'.P D (.lst accV))) := ⟨le'.k, le'.wk.b, le'.g, le'.m⟩
      obtain ⟨w1, w2⟩ := wk i _ S' H wk1 (fun a o u e => by
        show upd F'.P D (.lst accV) a = _
        have e' : F'.P a = some (.frz o u) := by rw [le'.p]; exact e
        rw [upd_ne fun q => by rw [q, fD.2] at e'; cases e']
        exact e') Rp
      by_cases hlt : i < ds.length
      · refine .inr ?_
        obtain ⟨g1, g2⟩ := w2 _ (List.getElem?_eq_getElem hlt)
        rw [List.drop_eq_getElem_cons hlt] at hl
        unfold lcL at hl
        refine ⟨g1, fun H' => ∃ m', m' < ds.length - i ∧ (i + 1 ≤ ds.length ∧ m' = ds.length - (i + 1) ∧ ∃ F' S' acc accV rest, Le F1 F' ∧ Rep F' S' H' ∧ H' D = some (.lst accV) ∧ RelL F' acc accV ∧ F'.G D = none ∧ F'.free D ∧ NoCell F' S' D ∧ lcL g c fe (dwipe ρ vs) (ds.drop (i + 1)) S' = some (rest, S2) ∧ ys = acc ++ rest), fun _ z => z, fun x H2 y => ?_⟩
        obtain ⟨F2, le2, R2, rx⟩ := g2 x H2 y
        have rE2 : RelE F2 (dwipe ρ vs) (wipe σ vs) := relE_wipe ((r1.wk wk1).le le2) vs
        -- what is known behind any part of the turn
        have back : ∀ {F4 : Fm} {S4 : Sto} {H4 : Hp}, Le (F'.prot (upd F'.P D (.lst accV))) F4 → Rep F4 S4 H4 → H4 D = some (.lst accV) ∧ Le F1 (F4.prot F1.P) ∧ F4.G D = none ∧ F4.B D = none ∧ F1.P D = none ∧ NoCell F4 S4 D ∧ Rep (F4.prot F1.P) S4 H4 ∧ RelL F4 acc accV := fun {F4 S4 H4} le4 R4 => by
          have eP : F4.P = upd F'.P D (.lst accV) := le4.p
          have ePD : F4.P D = some (.lst accV) := by rw [eP, upd_same]
          have pp : F'.P = F1.P := le'.p
          have gD4 : F4.G D = none := by
            cases q : F4.G D with
            | none => rfl
            | some o =>
              rcases le4.n D o q with h | h
              · have h2 : F'.G D = some o := h
                rw [gD] at h2
                cases h2
              · have h2 : upd F'.P D (HO.lst accV) D = none := h.2
                rw [upd_same] at h2
                cases h2
          have pD : F1.P D = none := by rw [← pp]; exact fD.2
          have nc4 : NoCell F4 S4 D := fun n c h l e => by
            have h3 := ((R4.cell n c D h e).2 l).2.2
            rw [ePD] at h3
            cases h3
          refine ⟨R4.p _ _ ePD, ⟨le4.k.trans le'.k, le4.b.trans le'.b, rfl, le'.g.trans le4.g, fun a o e => ?_, le'.m.trans le4.m⟩, gD4, ?_, pD, nc4, ?_, RelL.wk (F := F') ?_ _ _ ra⟩
          · rcases le4.n a o e with h | h
            · exact le'.n a o h
            · right
              have h1 : F'.B a = none := h.1
              have h2 : upd F'.P D (HO.lst accV) a = none := h.2
              have h3 : F'.P a = none := by
                by_cases q : a = D
                · rw [q, upd_same] at h2
                  cases h2
                · rw [upd_ne q] at h2
                  exact h2
              exact ⟨by rw [← le'.b]; exact h1, by rw [← pp]; exact h3⟩
          · rw [le4.b]
            exact fD.1
          · refine R4.prot (fun a o e => ?_) (fun a o u e => by
              rw [eP] at e
              by_cases q : a = D
              · rw [q, upd_same] at e
                cases e
              · rw [upd_ne q, pp] at e
                exact e) fun n c a h l e => ?_
            · refine R4.p _ _ ?_
              rw [eP, upd_ne (fun q => by rw [q, pD] at e; cases e), pp]
              exact e
            · have h3 := ((R4.cell n c a h e).2 l).2.2
              rw [eP] at h3
              by_cases q : a = D
              · rw [q]
                exact pD
              · rw [upd_ne q, pp] at h3
                exact h3
          · exact ⟨le4.k, le4.wk.b, le4.g, le4.m⟩
        split at hl
        · rename_i ρ1 S3 hg1
          refine hg F2 S' H2 _ _ _ x ρ1 S3 _ (le2.k.trans (le'.k.trans (le1.k.trans hk))) R2 rE2 rx hg1 fun σ3 hS r3 w3 => ⟨w3.trans wipe_wipe, ?_⟩
          subst hS
          split at hl
          · rename_i S5 hc1
            refine hc _ _ _ (rdT.go (le2.k.trans (le'.k.trans (le1.k.trans hk))) R2 r3 hc1 fun F3 H3 le3 hk3 R3 r4 => ?_)
            rw [if_pos rfl]
            split at hl
            · rename_i y1 S6 he1
              split at hl
              · rename_i ys7 S7 hl7
                cases hl
                refine rdE.go hk3 R3 r4 he1 fun F4 H4 v le4 hk4 R4 r5 rv => ?_
                obtain ⟨b1, b2, b3, b4, b5, b6, b7, b8⟩ := back ((le2.trans le3).trans le4) R4
                have hlen := ra.length
                refine ⟨accV, b1, ?_, _, by omega, hlt, rfl, F4.prot F1.P, S6, acc ++ [y1], accV ++ [v], ys7, b2, b7.over b3 ⟨b4, b5⟩ b6 (fun _ q => nomatch q), upd_same, ?_, b3, ⟨b4, b5⟩, b6, hl7, by rw [ey, List.append_assoc] <;> rfl⟩
                · rw [ey] at hsz
                  simp at hsz
                  omega
                · exact RelL.wk (F := F4) (F' := F4.prot F1.P) (⟨rfl, Same.refl F4.B, Same.refl F4.G, List.prefix_refl F4.lm⟩ : Wk F4 (F4.prot F1.P)) _ _ (b8.append (RelL.cons rv rfl))
              · cases hl
            · cases hl
          · rename_i S5 hc1
            refine hc _ _ _ (rdT.go (le2.k.trans (le'.k.trans (le1.k.trans hk))) R2 r3 hc1 fun F3 H3 le3 hk3 R3 r4 => ?_)
            rw [if_neg Bool.false_ne_true]
            obtain ⟨b1, b2, b3, b4, b5, b6, b7, b8⟩ := back (le2.trans le3) R3
            exact ⟨_, by omega, hlt, rfl, F3.prot F1.P, S5, acc, accV, rest, b2, b7, b1, RelL.wk (F := F3) (F' := F3.prot F1.P) (⟨rfl, Same.refl F3.B, Same.refl F3.G, List.prefix_refl F3.lm⟩ : Wk F3 (F3.prot F1.P)) _ _ b8, b3, ⟨b4, b5⟩, b6, hl, ey⟩
          · cases hl
        · cases hl
      · have e : i = ds.length := by omega
        subst e
        rw [List.drop_length] at hl
        cases (show some (([] : List DV), S') = some (rest, S2) from hl)
        rw [List.append_nil] at ey
        subst ey
        exact .inl ⟨w1 rfl, hq F' H D accV (le1.trans le') R' eD ra gD fD nc⟩
    · cases hf
  · cases hf
theorem lc_own {K : PySem.W.Frag} {it : DI} {g : DG} {c fe : DE} {vs : List Nat} {t : TG} {tt : TT} (hg : GW K t g vs) (hc : ∀ σ H Q, rdT K c σ H Q → tt σ H Q) {F : Fm} {S S' : Sto} {H : Hp} {ρ : Ev} {σ : L2.St} {d : DV} {Q : VK}
    (hk : F.K = K) (R : Rep F S H) (rr : RelE F ρ σ) (hf : dLc it g c fe vs ρ S = some (d, S')) (hq : PostE F S' d Q) : tLc (rdI K it) t tt (rdE K fe) vs σ H Q := by
  unfold dLc at hf
  split at hf
  · rename_i ys S2 h
    cases hf
    refine lc_go hg hc hk R rr h fun F' H' D xs le R' eD r gD fD nc => ?_
    obtain ⟨R2, le2⟩ := R'.adopt eD gD fD nc
    exact hq _ _ _ (le.trans le2) R2 ⟨D, xs, rfl, upd_same, r.le le2⟩
  · cases hf
theorem lc_mut {K : PySem.W.Frag} {it : DI} {g : DG} {c fe : DE} {vs : List Nat} {t : TG} {tt : TT} (hg : GW K t g vs) (hc : ∀ σ H Q, rdT K c σ H Q → tt σ H Q) {F : Fm} {S S' : Sto} {H : Hp} {ρ : Ev} {σ : L2.St} {d : DV} {Q : VK}
    (hk : F.K = K) (R : Rep F S H) (rr : RelE F ρ σ) (hf : dLcM it g c fe vs ρ S = some (d, S')) (hq : PostE F S' d Q) : tLc (rdI K it) t tt (rdE K fe) vs σ H Q := by
  unfold dLcM at hf
  split at hf
  · rename_i ys S2 h
    cases hf
    refine lc_go hg hc hk R rr h fun F' H' D xs le R' eD r gD fD nc => ?_
    have R2 := R'.cell_new (c := .lst ys) ⟨xs, eD, r.le (F'.cell_le D)⟩ gD fD nc
    exact hq _ _ _ (le.trans (F'.cell_le D)) R2 ⟨D, by rw [← R'.len]; exact get_len _ _, rfl⟩
  · cases hf
theorem yes_of {K : PySem.W.Frag} : ∀ σ H Q, rdT K (dC (.bl true)) σ H Q → tYes σ H Q := fun σ H Q h => by
  obtain ⟨F, S, ρ, b, S', hk, R, rr, e, hq⟩ := h
  cases (show some (DV.bl true, S) = some (DV.bl b, S') from e)
  exact hq F H (.refl F) R
section
variable {X : Cx} {e : Expr} {st : Stmt} {it : DI} {g : DG} {c fe : DE} {vs : List Nat} {t : TG} {tt : TT}
theorem ed_lc (h : PE X e (tLc (rdI X.K it) t tt (rdE X.K fe) vs)) (hg : GW X.K t g vs) (hc : ∀ σ H Q, rdT X.K c σ H Q → tt σ H Q) : ED X e (dLc it g c fe vs) :=
  .of h fun F S H ρ σ d S' Q hk R rr hf hq => lc_own hg hc hk R rr hf hq
/-- name = [..] -/
theorem sd_setLc {i : Nat} (h : PS X st (tAsg (tLc (rdI X.K it) t tt (rdE X.K fe) vs) (gName i))) (hg : GW X.K t g vs) (hc : ∀ σ H Q, rdT X.K c σ H Q → tt σ H Q) : SD X st (dSet i (dLc it g c fe vs)) :=
  sd_set ⟨fun pins s σ H D I hw => h.run pins s σ H D I (by
    obtain ⟨F, S, ρ, d, S', hk, R, rr, hf, hq⟩ := hw
    exact lc_own hg hc hk R rr hf hq)⟩
theorem sd_setLcM {i : Nat} (h : PS X st (tAsg (tLc (rdI X.K it) t tt (rdE X.K fe) vs) (gName i))) (hg : GW X.K t g vs) (hc : ∀ σ H Q, rdT X.K c σ H Q → tt σ H Q) : SD X st (dSet i (dLcM it g c fe vs)) :=
  sd_set ⟨fun pins s σ H D I hw => h.run pins s σ H D I (by
    obtain ⟨F, S, ρ, d, S', hk, R, rr, hf, hq⟩ := hw
    exact lc_mut hg hc hk R rr hf hq)⟩
end
end Dn

namespace Dn
open PySem PySem.Spec PyProof.Rows L2

/-! ### what a value holds -/
def asL (S : Sto) : DV → Option (List DV)
  | .lst _ ds => some ds
  | .loc n => match S[n]? with
    | some (.lst ds) => some ds
    | some (.frz (.lst _ ds)) => some ds
    | _ => none
  | _ => none
/-- a list that is tracked as such (not the script, not the module's own) -/
def asT (S : Sto) : DV → Option (List DV)
  | .lst .own ds => some ds
  | .lst .bor ds => some ds
  | .loc n => match S[n]? with
    | some (.lst ds) => some ds
    | some (.frz (.lst .own ds)) => some ds
    | _ => none
  | _ => none
section
variable {F : Fm} {S : Sto} {H : Hp} {d : DV} {v : V} {ds : List DV}
theorem Rel.lstSq {k : LK} (R : Rep F S H) (r : Rel F (.lst k ds) v) : ∃ a xs, v = .ref a ∧ SqL F.K H a xs ∧ RelL F ds xs := by
  cases k with
  | own =>
    obtain ⟨a, xs, rfl, h, rl⟩ := r
    exact ⟨a, xs, rfl, SqL.of (R.g _ _ h), rl⟩
  | bor =>
    obtain ⟨a, xs, rfl, h, rl⟩ := r
    exact ⟨a, xs, rfl, SqL.of (h.elim (R.b _ _) (R.g _ _)), rl⟩
  | ext =>
    obtain ⟨a, xs, rfl, h, rl⟩ := r
    exact ⟨a, xs, rfl, sqL_same R.g h, rl⟩
theorem asL_sq (R : Rep F S H) (r : Rel F d v) (h : asL S d = some ds) : ∃ a xs, v = .ref a ∧ SqL F.K H a xs ∧ RelL F ds xs := by
  cases d with
  | lst k es =>
    cases (show some es = some ds from h)
    exact r.lstSq R
  | loc n =>
    obtain ⟨a, ha, rfl⟩ := r
    unfold asL at h
    simp only at h
    split at h
    · rename_i es hc
      cases h
      obtain ⟨⟨xs, e, rl⟩, _⟩ := R.cell n _ a hc ha
      exact ⟨a, xs, rfl, SqL.of e, rl⟩
    · rename_i k es hc
      cases h
      obtain ⟨rl, _⟩ := R.cell n _ a hc ha
      exact (show Rel F (.lst k ds) (.ref a) from rl).lstSq R
    · cases h
  | _ => cases h
theorem asT_sq (R : Rep F S H) (r : Rel F d v) (h : asT S d = some ds) : ∃ a xs, v = .ref a ∧ H a = some (.lst xs) ∧ RelL F ds xs := by
  cases d with
  | lst k es =>
    cases k with
    | own =>
      cases (show some es = some ds from h)
      obtain ⟨a, xs, rfl, h, rl⟩ := r
      exact ⟨a, xs, rfl, R.g _ _ h, rl⟩
    | bor =>
      cases (show some es = some ds from h)
      obtain ⟨a, xs, rfl, h, rl⟩ := r
      exact ⟨a, xs, rfl, h.elim (R.b _ _) (R.g _ _), rl⟩
    | ext => cases h
  | loc n =>
    obtain ⟨a, ha, rfl⟩ := r
    unfold asT at h
    simp only at h
    split at h
    · rename_i es hc
      cases h
      obtain ⟨⟨xs, e, rl⟩, _⟩ := R.cell n _ a hc ha
      exact ⟨a, xs, rfl, e, rl⟩
    · rename_i es hc
      cases h
      obtain ⟨rl, _⟩ := R.cell n _ a hc ha
      obtain ⟨b, xs, e1, h, rl⟩ := (show Rel F (.lst .own ds) (.ref a) from rl)
      cases e1
      exact ⟨a, xs, rfl, R.g _ _ h, rl⟩
    · cases h
  | _ => cases h
theorem tup_sq (R : Rep F S H) (r : Rel F (.tup ds) v) : ∃ a xs, v = .ref a ∧ SqT F.K H a xs ∧ RelL F ds xs := by
  obtain ⟨a, xs, rfl, h, rl⟩ := r
  exact ⟨a, xs, rfl, SqT.of (R.g _ _ h), rl⟩
theorem tup_at (R : Rep F S H) (r : Rel F (.tup ds) v) : ∃ a xs, v = .ref a ∧ H a = some (.tup xs) ∧ RelL F ds xs := by
  obtain ⟨a, xs, rfl, h, rl⟩ := r
  exact ⟨a, xs, rfl, R.g _ _ h, rl⟩
theorem tupx_sq (R : Rep F S H) (r : Rel F (.tupx ds) v) : ∃ a xs, v = .ref a ∧ SqT F.K H a xs ∧ RelL F ds xs := by
  obtain ⟨a, xs, rfl, h, rl⟩ := r
  exact ⟨a, xs, rfl, sqT_same R.g h.t, rl⟩
end

/-! ### arithmetic -/
abbrev PI2 := Int → Int → Option Int
def pI (g : PI2) : P2 := fun x y S => match x, y with
  | .int i, .int j => (match g i j with
    | some k => some (.int k, S)
    | none => none)
  | _, _ => none
theorem ok_I {K : PySem.W.Frag} {C : Int → Int → Prop} {g : Int → Int → Int} {p : PI2} (h : ∀ i j k, p i j = some k → C i j ∧ k = g i j) : Ok2 K (pI p) (rI C fun i j => .int (g i j)) :=
  fun F S H x y vx vy d S' Q hk R rx ry hp hq => by
    unfold pI at hp
    split at hp
    · rename_i i j
      split at hp
      · rename_i k hk
        cases hp
        obtain ⟨hc, rfl⟩ := h _ _ _ hk
        exact ⟨i, j, rx, ry, hc, hq F H _ (.refl F) R rfl⟩
      · cases hp
    · cases hp
theorem ok_I0 {K : PySem.W.Frag} {g : Int → Int → Int} : Ok2 K (pI fun i j => some (g i j)) (rI0 fun i j => .int (g i j)) :=
  fun F S H x y vx vy d S' Q hk R rx ry hp hq => by
    unfold pI at hp
    split at hp
    · cases hp
      exact ⟨_, _, rx, ry, hq F H _ (.refl F) R rfl⟩
    · cases hp
def gSub : PI2 := fun i j => some (i - j)
def gMul : PI2 := fun i j => if (i.natAbs < 18446744073709551616 ∨ j.natAbs < 18446744073709551616) ∨ i.natAbs.log2 + j.natAbs.log2 < 1000000 then some (i * j) else none
def gMod : PI2 := fun i j => if 0 < j then some (i % j) else none
def gPow : PI2 := fun i j => if 0 ≤ j ∧ j ≤ 1000000 ∧ i.natAbs < 18446744073709551616 then some (i ^ j.toNat) else none
def gAnd : PI2 := fun i j => some (Builtin.bitAnd i j)
def gOr : PI2 := fun i j => some (Builtin.bitOr i j)
def gXor : PI2 := fun i j => some (Builtin.bitXor i j)
abbrev pSub : P2 := pI gSub
abbrev pMod : P2 := pI gMod
abbrev pPow : P2 := pI gPow
abbrev pAnd : P2 := pI gAnd
abbrev pOr : P2 := pI gOr
abbrev pXor : P2 := pI gXor
theorem of_ite2 {α : Type} {c : Prop} [Decidable c] {x z : α} (h : (if c then some x else none) = some z) : c ∧ z = x := by
  obtain ⟨h1, h2⟩ := of_ite h
  exact ⟨h1, (Option.some.inj h2).symm⟩
section
variable {X : Cx} {a b : Expr} {f g : DE} {pos : Pos}
theorem ed_sub (ha : ED X a f) (hb : ED X b g) : ED X (.BinOp a .Sub b pos) (dBin pSub f g) := ed_bin op_sub ok_I0 ha hb
theorem ed_mod (ha : ED X a f) (hb : ED X b g) : ED X (.BinOp a .Mod b pos) (dBin pMod f g) := ed_bin op_mod (ok_I fun i j k h => by unfold gMod at h; have h2 := of_ite2 h; exact h2) ha hb
theorem ed_pow (ha : ED X a f) (hb : ED X b g) : ED X (.BinOp a .Pow b pos) (dBin pPow f g) := ed_bin op_pow (ok_I fun i j k h => by unfold gPow at h; have h2 := of_ite2 h; exact ⟨⟨h2.1.1, h2.1.2.1, by have := h2.1.2.2; omega⟩, h2.2⟩) ha hb
def pNeg : P1 := fun x S => match x with
  | .int i => some (.int (-i), S)
  | _ => none
theorem ed_neg (ha : ED X a f) : ED X (.UnaryOp .USub a pos) (dUn pNeg f) := ed_un un_neg (fun F S H x vx d S' Q hk R rx hp hq => by
  unfold pNeg at hp
  split at hp
  · cases hp
    exact ⟨_, rx, hq F H _ (.refl F) R rfl⟩
  · cases hp) ha
end
/-! ### + and * over more kinds -/
def pAdd : P2 := fun x y S => match x, y with
  | .int i, .int j => some (.int (i + j), S)
  | .str a, .str b => if a.length + b.length ≤ sizeLine then some (.str (a ++ b), S) else none
  | .tup xs, .tup ys => if xs.length + ys.length ≤ sizeLine then some (.tup (xs ++ ys), S) else none
  | x, y => (match asT S x, asT S y with
    | some xs, some ys => if xs.length + ys.length ≤ sizeLine then some (.lst .own (xs ++ ys), S) else none
    | _, _ => none)
def pAddM : P2 := fun x y S => match asT S x, asT S y with
  | some xs, some ys => if xs.length + ys.length ≤ sizeLine then some (.loc S.length, S ++ [.lst (xs ++ ys)]) else none
  | _, _ => none
abbrev rAddAll (K : PySem.W.Frag) : R2 := fun x y H Q => (rI0 fun i j => .int (i + j)) x y H Q ∨ (fun x y H Q => (fun x y H Q => ∃ i j, x = .str i ∧ y = .str j ∧ i.length + j.length ≤ sizeLine ∧ Q (.str (i ++ j)) H) x y H Q ∨ (fun x y H Q => rCat x y H Q ∨ rCatA K x y H Q) x y H Q) x y H Q
theorem op_addAll {X : Cx} : OpR X (binaryOp .Add) (rAddAll X.K) := op_add.or (op_add_str.or (op_cat.or op_catA))
theorem ok_add {K : PySem.W.Frag} : Ok2 K pAdd (rAddAll K) := fun F S H x y vx vy d S' Q hk R rx ry hp hq => by
  unfold pAdd at hp
  split at hp
  · cases hp
    exact .inl ⟨_, _, rx, ry, hq F H _ (.refl F) R rfl⟩
  · obtain ⟨h1, h2⟩ := of_ite hp
    cases h2
    exact .inr (.inl ⟨_, _, rx, ry, h1, hq F H _ (.refl F) R rfl⟩)
  · rename_i xs ys
    obtain ⟨h1, h2⟩ := of_ite hp
    cases h2
    obtain ⟨a, us, rfl, sa, ra⟩ := tup_sq R rx
    obtain ⟨b, ws, rfl, sb, rb⟩ := tup_sq R ry
    rw [hk] at sa sb
    refine .inr (.inr (.inr ⟨a, b, us, ws, rfl, rfl, sa, sb, by rw [← ra.length, ← rb.length]; exact h1, fun e => ?_, fun n e => ?_, fun n1 n2 => new_tup R (ra.append rb) hq⟩))
    · have e2 : xs = [] := List.eq_nil_of_length_eq_zero (by rw [ra.length, e]; rfl)
      subst e2
      exact hq F H _ (.refl F) R ry
    · have e2 : ys = [] := List.eq_nil_of_length_eq_zero (by rw [rb.length, e]; rfl)
      subst e2
      rw [List.append_nil] at hq
      exact hq F H _ (.refl F) R rx
  · split at hp
    · rename_i xs ys h1 h2
      obtain ⟨h3, h4⟩ := of_ite hp
      cases h4
      obtain ⟨a, us, rfl, sa, ra⟩ := asT_sq R rx h1
      obtain ⟨b, ws, rfl, sb, rb⟩ := asT_sq R ry h2
      exact .inr (.inr (.inl ⟨a, b, us, ws, rfl, rfl, sa, sb, by rw [← ra.length, ← rb.length]; exact h3, new_lst R (ra.append rb) hq⟩))
    · cases hp
def repD (xs : List DV) (k : Nat) : List DV := (List.replicate k xs).flatten
def pMul : P2 := fun x y S => match x, y with
  | .int i, .int j => (match gMul i j with
    | some k => some (.int k, S)
    | none => none)
  | x, .int k => (match asT S x with
    | some xs => if k.natAbs < 9223372036854775808 ∧ xs.length * k.toNat ≤ sizeLine then some (.lst .own (repD xs k.toNat), S) else none
    | none => none)
  | _, _ => none
theorem RelL.rep {F : Fm} {ds : List DV} {vs : List V} (r : RelL F ds vs) : ∀ k : Nat, RelL F (repD ds k) (List.replicate k vs).flatten
  | 0 => rfl
  | k + 1 => by
    unfold repD
    rw [List.replicate_succ, List.replicate_succ, List.flatten_cons, List.flatten_cons]
    exact r.append (RelL.rep r k)
def CMulA (i j : Int) : Prop := CMul i j ∨ CMulW i j
theorem gMul_ok {i j : Int} (h : (i.natAbs < 18446744073709551616 ∨ j.natAbs < 18446744073709551616) ∨ i.natAbs.log2 + j.natAbs.log2 < 1000000) : CMulA i j := by
  rcases h with (h | h) | h
  · exact .inl (.inl ⟨by omega, by omega⟩)
  · exact .inl (.inr ⟨by omega, by omega⟩)
  · exact .inr h
theorem op_mulA {X : Cx} : OpR X (binaryOp .Mult) (rI CMulA fun i j => .int (i * j)) := opI fun _ _ _ _ _ _ _ hc q => mul_int q (hc.elim CMul.ok CMulW.ok)
abbrev rMulAll : R2 := fun x y H Q => (rI CMulA fun i j => .int (i * j)) x y H Q ∨ rRep x y H Q
theorem op_mulAll {X : Cx} : OpR X (binaryOp .Mult) rMulAll := op_mulA.or op_rep
theorem ok_mul {K : PySem.W.Frag} : Ok2 K pMul rMulAll := fun F S H x y vx vy d S' Q hk R rx ry hp hq => by
  unfold pMul at hp
  split at hp
  · unfold gMul at hp
    split at hp
    · rename_i k hg
      obtain ⟨h1, rfl⟩ := of_ite2 hg
      cases hp
      exact .inl ⟨_, _, rx, ry, gMul_ok h1, hq F H _ (.refl F) R rfl⟩
    · cases hp
  · split at hp
    · rename_i xs h1
      obtain ⟨⟨h2, h4⟩, h5⟩ := of_ite hp
      cases h5
      obtain ⟨a, us, rfl, sa, ra⟩ := asT_sq R rx h1
      have ey : vy = .int _ := ry
      refine .inr ⟨a, _, us, rfl, ey, sa, by omega, by omega, by rw [← ra.length]; exact h4, new_lst R (ra.rep _) hq⟩
    · cases hp
  · cases hp
/-! ### == and != -/
mutual
def toPy : DV → Option PyData
  | .non => some .none
  | .bl b => some (.bool b)
  | .int i => some (.int i)
  | .str s => some (.str s)
  | .tup ds => match toPyL ds with
    | some es => some (.tuple es)
    | none => none
  | .lst _ ds => match toPyL ds with
    | some es => some (.list es)
    | none => none
  | _ => none
def toPyL : List DV → Option (List PyData)
  | [] => some []
  | d :: ds => match toPy d with
    | some e => (match toPyL ds with
      | some es => some (e :: es)
      | none => none)
    | none => none
end
mutual
theorem toPy_dp {F : Fm} {H : Hp} (hg : Same F.G H) (hb : Same F.B H) : ∀ (d : DV) (v : V) (e : PyData), Rel F d v → toPy d = some e → Dp F.K H v e
  | .non, v, e, r, h => by
    cases (show some PyData.none = some e from h)
    rw [show v = .non from r]
    exact .non
  | .bl b, v, e, r, h => by
    cases (show some (PyData.bool b) = some e from h)
    rw [show v = .bl b from r]
    exact .bl b
  | .int b, v, e, r, h => by
    cases (show some (PyData.int b) = some e from h)
    rw [show v = .int b from r]
    exact .int b
  | .str b, v, e, r, h => by
    cases (show some (PyData.str b) = some e from h)
    rw [show v = .str b from r]
    exact .str b
  | .tup ds, v, e, r, h => by
    unfold toPy at h
    split at h
    · rename_i es he
      cases h
      obtain ⟨a, xs, rfl, hs, rl⟩ := r
      exact .tup (SqT.of (hg _ _ hs)) (toPyL_dp hg hb ds xs es rl he)
    · cases h
  | .lst k ds, v, e, r, h => by
    unfold toPy at h
    split at h
    · rename_i es he
      cases h
      cases k with
      | own =>
        obtain ⟨a, xs, rfl, hs, rl⟩ := r
        exact .lst (SqL.of (hg _ _ hs)) (toPyL_dp hg hb ds xs es rl he)
      | bor =>
        obtain ⟨a, xs, rfl, hs, rl⟩ := r
        exact .lst (SqL.of (hs.elim (hb _ _) (hg _ _))) (toPyL_dp hg hb ds xs es rl he)
      | ext =>
        obtain ⟨a, xs, rfl, hs, rl⟩ := r
        exact .lst (sqL_same hg hs) (toPyL_dp hg hb ds xs es rl he)
    · cases h
  | .dik _ _ _, v, e, r, h => by cases (show none = some e from h)
  | .tupx _, v, e, r, h => by cases (show none = some e from h)
  | .dit _ _ _, v, e, r, h => by cases (show none = some e from h)
  | .loc _, v, e, r, h => by cases (show none = some e from h)
theorem toPyL_dp {F : Fm} {H : Hp} (hg : Same F.G H) (hb : Same F.B H) : ∀ (ds : List DV) (vs : List V) (es : List PyData), RelL F ds vs → toPyL ds = some es → DpAll F.K H vs es
  | [], vs, es, r, h => by
    cases (show some ([] : List PyData) = some es from h)
    rw [show vs = [] from r]
    exact .nil
  | d :: ds, vs, es, r, h => by
    obtain ⟨x, xr, rfl, h1, h2⟩ := r
    unfold toPyL at h
    split at h
    · rename_i e he
      split at h
      · rename_i es' hes
        cases h
        exact .cons (toPy_dp hg hb d x e h1 he) (toPyL_dp hg hb ds xr es' h2 hes)
      · cases h
    · cases h
end
def scD : DV → DV → Option Bool
  | .non, .non => some true
  | .non, .int _ => some false
  | .int _, .non => some false
  | .non, .str _ => some false
  | .str _, .non => some false
  | .non, .bl _ => some false
  | .bl _, .non => some false
  | .int i, .int j => some (decide (i = j))
  | .bl i, .bl j => some (decide (i = j))
  | .str i, .str j => some (decide (i = j))
  | .int _, .str _ => some false
  | .str _, .int _ => some false
  | .bl _, .str _ => some false
  | .str _, .bl _ => some false
  | _, _ => none
def eqDeep (S : Sto) (x y : DV) : Option Bool := match cpD true S x, cpD true S y with
  | some x', some y' => (match toPy x', toPy y' with
    | some d, some e => if SeqAt.shaped d = true ∧ SeqAt.shaped e = true then some (PyData.eqv d e) else none
    | _, _ => none)
  | _, _ => none
def eqD (S : Sto) (x y : DV) : Option Bool := match scD x y with
  | some b => some b
  | none => eqDeep S x y
def pEq (neg : Bool) : P2 := fun x y S => match eqD S x y with
  | some b => some (.bl (if neg then !b else b), S)
  | none => none
theorem scD_ok {F : Fm} {x y : DV} {vx vy : V} {b : Bool} (rx : Rel F x vx) (ry : Rel F y vy) (h : scD x y = some b) : scal vx vy = true ∧ decide (vx = vy) = b := by
  have g : ∀ {i j : Int}, decide (V.int i = V.int j) = decide (i = j) := fun {i j} => by
    by_cases q : i = j
    · rw [q, decide_eq_true rfl, decide_eq_true rfl]
    · rw [decide_eq_false q, decide_eq_false fun z => q (V.int.inj z)]
  have g2 : ∀ {i j : Bool}, decide (V.bl i = V.bl j) = decide (i = j) := fun {i j} => by
    by_cases q : i = j
    · rw [q, decide_eq_true rfl, decide_eq_true rfl]
    · rw [decide_eq_false q, decide_eq_false fun z => q (V.bl.inj z)]
  have g3 : ∀ {i j : Str}, decide (V.str i = V.str j) = decide (i = j) := fun {i j} => by
    by_cases q : i = j
    · rw [q, decide_eq_true rfl, decide_eq_true rfl]
    · rw [decide_eq_false q, decide_eq_false fun z => q (V.str.inj z)]
  cases x <;> cases y <;> first
    | (cases h; done)
    | (obtain rfl := (show vx = _ from rx)
       obtain rfl := (show vy = _ from ry)
       cases h
       first
        | exact ⟨rfl, rfl⟩
        | exact ⟨rfl, g⟩
        | exact ⟨rfl, g2⟩
        | exact ⟨rfl, g3⟩)
theorem eqDeep_ok {F : Fm} {S : Sto} {H : Hp} {x y : DV} {vx vy : V} {b : Bool} (R : Rep F S H) (rx : Rel F x vx) (ry : Rel F y vy) (h : eqDeep S x y = some b) : ∃ d e, Dp F.K H vx d ∧ Dp F.K H vy e ∧ SeqAt.shaped d = true ∧ SeqAt.shaped e = true ∧ b = PyData.eqv d e := by
  unfold eqDeep at h
  split at h
  · rename_i x' y' hx hy
    split at h
    · rename_i d e hd he
      obtain ⟨⟨s1, s2⟩, rfl⟩ := of_ite2 h
      have r1 : RelL ⟨F.K, F.G, H, fun _ => none, []⟩ [x'] [vx] := cpL_bor R (ds := [x]) (by unfold cpL mapDL mapDL; rw [show mapD true _ x = some x' from hx]) ⟨vx, [], rfl, rx, rfl⟩
      have r2 : RelL ⟨F.K, F.G, H, fun _ => none, []⟩ [y'] [vy] := cpL_bor R (ds := [y]) (by unfold cpL mapDL mapDL; rw [show mapD true _ y = some y' from hy]) ⟨vy, [], rfl, ry, rfl⟩
      obtain ⟨_, _, e1, r1, _⟩ := r1
      obtain ⟨_, _, e2, r2, _⟩ := r2
      cases e1
      cases e2
      exact ⟨d, e, toPy_dp (F := ⟨F.K, F.G, H, fun _ => none, []⟩) R.g (Same.refl _) x' vx d r1 hd, toPy_dp (F := ⟨F.K, F.G, H, fun _ => none, []⟩) R.g (Same.refl _) y' vy e r2 he, s1, s2, rfl⟩
    · cases h
  · cases h
abbrev rEqAll (K : PySem.W.Frag) : R2 := fun x y H Q => rEq x y H Q ∨ rEqD K x y H Q
abbrev rNeAll (K : PySem.W.Frag) : R2 := fun x y H Q => rNe x y H Q ∨ rNeD K x y H Q
theorem ok_eq {K : PySem.W.Frag} : Ok2 K (pEq false) (rEqAll K) := fun F S H x y vx vy d S' Q hk R rx ry hp hq => by
  unfold pEq at hp
  split at hp
  · rename_i b he
    cases hp
    unfold eqD at he
    split at he
    · rename_i b' hs
      cases he
      obtain ⟨h1, h2⟩ := scD_ok rx ry hs
      exact .inl ⟨h1, by rw [h2]; exact hq F H _ (.refl F) R rfl⟩
    · obtain ⟨d, e, h1, h2, h3, h4, rfl⟩ := eqDeep_ok R rx ry he
      rw [hk] at h1 h2
      exact .inr ⟨d, e, h1, h2, h3, h4, hq F H _ (.refl F) R rfl⟩
  · cases hp
theorem ok_ne {K : PySem.W.Frag} : Ok2 K (pEq true) (rNeAll K) := fun F S H x y vx vy d S' Q hk R rx ry hp hq => by
  unfold pEq at hp
  split at hp
  · rename_i b he
    cases hp
    unfold eqD at he
    split at he
    · rename_i b' hs
      cases he
      obtain ⟨h1, h2⟩ := scD_ok rx ry hs
      exact .inl ⟨h1, by rw [h2]; exact hq F H _ (.refl F) R rfl⟩
    · obtain ⟨d, e, h1, h2, h3, h4, rfl⟩ := eqDeep_ok R rx ry he
      rw [hk] at h1 h2
      exact .inr ⟨d, e, h1, h2, h3, h4, hq F H _ (.refl F) R rfl⟩
  · cases hp

/-! ### other comparisons -/
def pCmp (g : Int → Int → Bool) : P2 := fun x y S => match x, y with
  | .int i, .int j => some (.bl (g i j), S)
  | _, _ => none
abbrev pLt : P2 := pCmp fun i j => decide (i < j)
abbrev pLe : P2 := pCmp fun i j => decide (i ≤ j)
abbrev pGt : P2 := pCmp fun i j => decide (j < i)
abbrev pGe : P2 := pCmp fun i j => decide (j ≤ i)
theorem ok_cmp {K : PySem.W.Frag} {g : Int → Int → Bool} : Ok2 K (pCmp g) (rI0 fun i j => .bl (g i j)) := fun F S H x y vx vy d S' Q hk R rx ry hp hq => by
  unfold pCmp at hp
  split at hp
  · cases hp
    exact ⟨_, _, rx, ry, hq F H _ (.refl F) R rfl⟩
  · cases hp
def isNon : DV → Bool
  | .non => true
  | _ => false
def pIs (neg : Bool) : P2 := fun x y S => match y with
  | .non => some (.bl (if neg then !isNon x else isNon x), S)
  | _ => none
theorem isNon_ok {F : Fm} {x : DV} {v : V} (r : Rel F x v) : decide (v = .non) = isNon x := by
  cases x with
  | non =>
    obtain rfl := (show v = _ from r)
    exact decide_eq_true rfl
  | bl b =>
    obtain rfl := (show v = _ from r)
    exact decide_eq_false fun q => nomatch q
  | int b =>
    obtain rfl := (show v = _ from r)
    exact decide_eq_false fun q => nomatch q
  | str b =>
    obtain rfl := (show v = _ from r)
    exact decide_eq_false fun q => nomatch q
  | tup ds =>
    obtain ⟨a, xs, rfl, _⟩ := r
    exact decide_eq_false fun q => nomatch q
  | lst k ds =>
    cases k <;>
    · obtain ⟨a, xs, rfl, _⟩ := r
      exact decide_eq_false fun q => nomatch q
  | exc C ns ds =>
    obtain ⟨a, dd, xs, rfl, _⟩ := r
    exact decide_eq_false fun q => nomatch q
  | tupx ds =>
    obtain ⟨a, xs, rfl, _⟩ := r
    exact decide_eq_false fun q => nomatch q
  | dik k ks ds =>
    obtain ⟨a, xs, rfl, _⟩ := r
    exact decide_eq_false fun q => nomatch q
  | dit k ks ds =>
    obtain ⟨a, xs, rfl, _⟩ := r
    exact decide_eq_false fun q => nomatch q
  | loc n =>
    obtain ⟨a, _, rfl⟩ := r
    exact decide_eq_false fun q => nomatch q
theorem ok_is {K : PySem.W.Frag} : Ok2 K (pIs false) (fun x y H Q => y = .non ∧ Q (.bl (decide (x = .non))) H) := fun F S H x y vx vy d S' Q hk R rx ry hp hq => by
  unfold pIs at hp
  split at hp
  · cases hp
    exact ⟨ry, by rw [isNon_ok rx]; exact hq F H _ (.refl F) R rfl⟩
  · cases hp
theorem ok_isnot {K : PySem.W.Frag} : Ok2 K (pIs true) (fun x y H Q => y = .non ∧ Q (.bl (!decide (x = .non))) H) := fun F S H x y vx vy d S' Q hk R rx ry hp hq => by
  unfold pIs at hp
  split at hp
  · cases hp
    exact ⟨ry, by rw [isNon_ok rx]; exact hq F H _ (.refl F) R rfl⟩
  · cases hp
/-- flat values: as in «in» over a list or tuple -/
def flD : DV → Bool
  | .non => true
  | .bl _ => true
  | .int _ => true
  | .str _ => true
  | _ => false
def eqF : DV → DV → Bool
  | .non, .non => true
  | .bl a, .bl b => a == b
  | .int a, .int b => a == b
  | .str a, .str b => a == b
  | .bl a, .int b => (if a then 1 else 0) == b
  | .int a, .bl b => a == (if b then 1 else 0)
  | _, _ => false
end Dn

namespace Dn
open PySem PySem.Spec PyProof.Rows L2

theorem PE.or {X : Cx} {e : Expr} {t u : TE} (h : PE X e t) (k : PE X e u) : PE X e (fun σ H Q => t σ H Q ∨ u σ H Q) := ⟨fun pins s σ H Q I w => w.elim (h.run pins s σ H Q I) (k.run pins s σ H Q I)⟩
theorem PT.or {X : Cx} {e : Expr} {t u : TT} (h : PT X e t) (k : PT X e u) : PT X e (fun σ H Q => t σ H Q ∨ u σ H Q) := ⟨fun pins s σ H Q I w => w.elim (h.run pins s σ H Q I) (k.run pins s σ H Q I)⟩
theorem PI.or {X : Cx} {tg e : Expr} {t u : TI} (h : PI X tg e t) (k : PI X tg e u) : PI X tg e (fun σ H Q => t σ H Q ∨ u σ H Q) := ⟨fun pins s σ H Q I w => w.elim (h.run pins s σ H Q I) (k.run pins s σ H Q I)⟩

/-! ### flat data -/
theorem flD_ok {F : Fm} {x : DV} {v : V} (r : Rel F x v) (h : flD x = true) : flatV v = true ∧ ∀ {y : DV} {u : V}, Rel F y u → flD y = true → eqV v u = eqF x y := by
  cases x <;> first
    | (cases h; done)
    | (obtain rfl := (show v = _ from r)
       refine ⟨rfl, fun {y u} ry hy => ?_⟩
       cases y <;> first
        | (cases hy; done)
        | (obtain rfl := (show u = _ from ry)
           rfl))
def inD (x : DV) (ds : List DV) : Bool := ds.any fun y => eqF y x
theorem inD_ok {F : Fm} {x : DV} {v : V} (r : Rel F x v) (h : flD x = true) : ∀ {ds : List DV} {vs : List V}, RelL F ds vs → ds.all flD = true → vs.all flatV = true ∧ inV v vs = inD x ds
  | [], vs, rl, _ => by
    obtain rfl := (show vs = [] from rl)
    exact ⟨rfl, rfl⟩
  | d :: ds, vs, rl, ha => by
    obtain ⟨u, ur, rfl, h1, h2⟩ := rl
    rw [List.all_cons] at ha
    obtain ⟨k1, k2⟩ := Bool.and_eq_true_iff.mp ha
    obtain ⟨e1, e2⟩ := inD_ok r h h2 k2
    obtain ⟨f1, f2⟩ := flD_ok h1 k1
    refine ⟨by rw [List.all_cons, f1, e1] <;> rfl, ?_⟩
    have e2' : (ur.any fun y => eqV y v) = ds.any fun y => eqF y x := e2
    show ((u :: ur).any fun y => eqV y v) = (d :: ds).any fun y => eqF y x
    rw [List.any_cons, List.any_cons, f2 r h, e2']

/-! ### dicts -/
def asK (S : Sto) : DV → Option (List Key × List DV)
  | .dik _ ks ds => some (ks, ds)
  | .loc n => match S[n]? with
    | some (.dik ks ds) => some (ks, ds)
    | some (.frz (.dik _ ks ds)) => some (ks, ds)
    | some (.lok ks ds) => some (ks, ds)
    | _ => none
  | _ => none
/-- .. but not of one that is being walked -/
def asK0 (S : Sto) : DV → Option (List Key × List DV)
  | .dik _ ks ds => some (ks, ds)
  | .loc n => match S[n]? with
    | some (.dik ks ds) => some (ks, ds)
    | some (.frz (.dik _ ks ds)) => some (ks, ds)
    | _ => none
  | _ => none
def asKT (S : Sto) : DV → Option (List (List Key) × List DV)
  | .dit _ ks ds => some (ks, ds)
  | .loc n => match S[n]? with
    | some (.dit ks ds) => some (ks, ds)
    | some (.frz (.dit _ ks ds)) => some (ks, ds)
    | some (.lokt ks ds) => some (ks, ds)
    | _ => none
  | _ => none
def asKT0 (S : Sto) : DV → Option (List (List Key) × List DV)
  | .dit _ ks ds => some (ks, ds)
  | .loc n => match S[n]? with
    | some (.dit ks ds) => some (ks, ds)
    | some (.frz (.dit _ ks ds)) => some (ks, ds)
    | _ => none
  | _ => none
def keyD : DV → Option Key
  | .int i => some (.inl i)
  | .str s => some (.inr s)
  | _ => none
def keysD : List DV → Option (List Key)
  | [] => some []
  | d :: ds => match keyD d with
    | some k => (match keysD ds with
      | some ks => some (k :: ks)
      | none => none)
    | none => none
def keyT : DV → Option (List Key)
  | .tup ds => keysD ds
  | _ => none
def lkD {κ : Type} [DecidableEq κ] : List κ → List DV → κ → Option DV
  | k :: ks, d :: ds, j => if k = j then some d else lkD ks ds j
  | _, _, _ => none
def rpG {κ α : Type} [DecidableEq κ] (j : κ) (x : α) : List κ → List α → List α
  | k :: ks, d :: ds => (if k = j then x else d) :: rpG j x ks ds
  | _, _ => []
def hasK {κ : Type} [DecidableEq κ] (ks : List κ) (j : κ) : Bool := ks.any fun k => decide (k = j)
def putKs {κ : Type} [DecidableEq κ] (ks : List κ) (j : κ) : List κ := if hasK ks j = true then ks else ks ++ [j]
def putVs {κ : Type} [DecidableEq κ] (ks : List κ) (ds : List DV) (j : κ) (x : DV) : List DV := if hasK ks j = true then rpG j x ks ds else ds ++ [x]
section
variable {F : Fm} {S : Sto} {H : Hp} {d : DV} {v : V}
theorem asK_ok (R : Rep F S H) (r : Rel F d v) {ks : List Key} {ds : List DV} (h : asK S d = some (ks, ds)) : ∃ a xs, v = .ref a ∧ ks.length = ds.length ∧ Rd H a (.dK (ks.zip xs)) ∧ RelL F ds xs := by
  cases d with
  | dik k es fs =>
    cases (show some (es, fs) = some (ks, ds) from h)
    obtain ⟨a, xs, rfl, hz, h, rl⟩ := r
    exact ⟨a, xs, rfl, hz, .inl (h.elim (R.g _ _) fun h => R.b _ _ h.2), rl⟩
  | loc n =>
    obtain ⟨a, ha, rfl⟩ := r
    unfold asK at h
    simp only at h
    split at h
    · rename_i es fs hc
      cases h
      obtain ⟨⟨xs, hz, e, rl⟩, _⟩ := R.cell n _ a hc ha
      exact ⟨a, xs, rfl, hz, .inl e, rl⟩
    · rename_i k es fs hc
      cases h
      obtain ⟨rl, _⟩ := R.cell n _ a hc ha
      obtain ⟨b, xs, e1, hz, h, rl⟩ := (show Rel F (.dik k ks ds) (.ref a) from rl)
      cases e1
      exact ⟨a, xs, rfl, hz, .inl (h.elim (R.g _ _) fun h => R.b _ _ h.2), rl⟩
    · rename_i es fs hc
      cases h
      obtain ⟨⟨o, xs, hz, e, rl⟩, _⟩ := R.cell n _ a hc ha
      exact ⟨a, xs, rfl, hz, .inr ⟨o, R.p _ _ e⟩, rl⟩
    · cases h
  | _ => cases h
theorem asK0_ok (R : Rep F S H) (r : Rel F d v) {ks : List Key} {ds : List DV} (h : asK0 S d = some (ks, ds)) : ∃ a xs, v = .ref a ∧ ks.length = ds.length ∧ H a = some (.dK (ks.zip xs)) ∧ RelL F ds xs := by
  cases d with
  | dik k es fs =>
    cases (show some (es, fs) = some (ks, ds) from h)
    obtain ⟨a, xs, rfl, hz, h, rl⟩ := r
    exact ⟨a, xs, rfl, hz, h.elim (R.g _ _) fun h => R.b _ _ h.2, rl⟩
  | loc n =>
    obtain ⟨a, ha, rfl⟩ := r
    unfold asK0 at h
    simp only at h
    split at h
    · rename_i es fs hc
      cases h
      obtain ⟨⟨xs, hz, e, rl⟩, _⟩ := R.cell n _ a hc ha
      exact ⟨a, xs, rfl, hz, e, rl⟩
    · rename_i k es fs hc
      cases h
      obtain ⟨rl, _⟩ := R.cell n _ a hc ha
      obtain ⟨b, xs, e1, hz, h, rl⟩ := (show Rel F (.dik k ks ds) (.ref a) from rl)
      cases e1
      exact ⟨a, xs, rfl, hz, h.elim (R.g _ _) fun h => R.b _ _ h.2, rl⟩
    · cases h
  | _ => cases h
theorem asKT_ok (R : Rep F S H) (r : Rel F d v) {ks : List (List Key)} {ds : List DV} (h : asKT S d = some (ks, ds)) : ∃ a xs, v = .ref a ∧ ks.length = ds.length ∧ Rd H a (.dT (ks.zip xs)) ∧ RelL F ds xs := by
  cases d with
  | dit k es fs =>
    cases (show some (es, fs) = some (ks, ds) from h)
    obtain ⟨a, xs, rfl, hz, h, rl⟩ := r
    exact ⟨a, xs, rfl, hz, .inl (h.elim (R.g _ _) fun h => R.b _ _ h.2), rl⟩
  | loc n =>
    obtain ⟨a, ha, rfl⟩ := r
    unfold asKT at h
    simp only at h
    split at h
    · rename_i es fs hc
      cases h
      obtain ⟨⟨xs, hz, e, rl⟩, _⟩ := R.cell n _ a hc ha
      exact ⟨a, xs, rfl, hz, .inl e, rl⟩
    · rename_i k es fs hc
      cases h
      obtain ⟨rl, _⟩ := R.cell n _ a hc ha
      obtain ⟨b, xs, e1, hz, h, rl⟩ := (show Rel F (.dit k ks ds) (.ref a) from rl)
      cases e1
      exact ⟨a, xs, rfl, hz, .inl (h.elim (R.g _ _) fun h => R.b _ _ h.2), rl⟩
    · rename_i es fs hc
      cases h
      obtain ⟨⟨o, xs, hz, e, rl⟩, _⟩ := R.cell n _ a hc ha
      exact ⟨a, xs, rfl, hz, .inr ⟨o, R.p _ _ e⟩, rl⟩
    · cases h
  | _ => cases h
theorem asKT0_ok (R : Rep F S H) (r : Rel F d v) {ks : List (List Key)} {ds : List DV} (h : asKT0 S d = some (ks, ds)) : ∃ a xs, v = .ref a ∧ ks.length = ds.length ∧ H a = some (.dT (ks.zip xs)) ∧ RelL F ds xs := by
  cases d with
  | dit k es fs =>
    cases (show some (es, fs) = some (ks, ds) from h)
    obtain ⟨a, xs, rfl, hz, h, rl⟩ := r
    exact ⟨a, xs, rfl, hz, h.elim (R.g _ _) fun h => R.b _ _ h.2, rl⟩
  | loc n =>
    obtain ⟨a, ha, rfl⟩ := r
    unfold asKT0 at h
    simp only at h
    split at h
    · rename_i es fs hc
      cases h
      obtain ⟨⟨xs, hz, e, rl⟩, _⟩ := R.cell n _ a hc ha
      exact ⟨a, xs, rfl, hz, e, rl⟩
    · rename_i k es fs hc
      cases h
      obtain ⟨rl, _⟩ := R.cell n _ a hc ha
      obtain ⟨b, xs, e1, hz, h, rl⟩ := (show Rel F (.dit k ks ds) (.ref a) from rl)
      cases e1
      exact ⟨a, xs, rfl, hz, h.elim (R.g _ _) fun h => R.b _ _ h.2, rl⟩
    · cases h
  | _ => cases h
theorem keyD_ok {k : Key} (r : Rel F d v) (h : keyD d = some k) : v = kV k := by
  cases d <;> first
    | (cases h; done)
    | (cases h
       exact r)
theorem keysD_ok : ∀ {ds : List DV} {vs : List V} {ks : List Key}, RelL F ds vs → keysD ds = some ks → vs = ks.map kV
  | [], vs, ks, r, h => by
    cases (show some ([] : List Key) = some ks from h)
    exact r
  | d :: ds, vs, ks, r, h => by
    obtain ⟨x, xr, rfl, h1, h2⟩ := r
    unfold keysD at h
    split at h
    · rename_i k hk
      split at h
      · rename_i ks' hks
        cases h
        rw [keyD_ok h1 hk, keysD_ok h2 hks] <;> rfl
      · cases h
    · cases h
theorem lk_ok {κ : Type} [DecidableEq κ] (j : κ) : ∀ {ks : List κ} {ds : List DV} {xs : List V}, RelL F ds xs → (∀ {e : DV}, lkD ks ds j = some e → ∃ x, valV (ks.zip xs) j = some x ∧ Rel F e x) ∧ (ks.length = ds.length → lkD ks ds j = none → valV (ks.zip xs) j = none)
  | [], ds, xs, r => by
    refine ⟨fun {e} h => ?_, fun _ _ => ?_⟩
    · unfold lkD at h
      cases h
    · rw [List.zip_nil_left] <;> rfl
  | k :: ks, [], xs, r => by
    refine ⟨fun {e} h => ?_, fun h => ?_⟩
    · unfold lkD at h
      cases h
    · cases h
  | k :: ks, d :: ds, xs, r => by
    obtain ⟨x, xr, rfl, h1, h2⟩ := r
    obtain ⟨i1, i2⟩ := lk_ok j (ks := ks) h2
    rw [List.zip_cons_cons]
    by_cases q : k = j
    · refine ⟨fun {e} h => ?_, fun _ h => ?_⟩
      · unfold lkD at h
        rw [if_pos q] at h
        cases h
        exact ⟨x, valV_pos q, h1⟩
      · unfold lkD at h
        rw [if_pos q] at h
        cases h
    · refine ⟨fun {e} h => ?_, fun hl h => ?_⟩
      · unfold lkD at h
        rw [if_neg q] at h
        obtain ⟨y, y1, y2⟩ := i1 h
        exact ⟨y, by rw [valV_neg q]; exact y1, y2⟩
      · unfold lkD at h
        rw [if_neg q] at h
        rw [valV_neg q]
        exact i2 (Nat.succ.inj hl) h
end
/-- what a dict has for a key: none: this is no dict or no key -/
def getD (S : Sto) (x k : DV) : Option (Option DV) := match asK S x, keyD k with
  | some (ks, ds), some j => some (lkD ks ds j)
  | _, _ => (match asKT S x, keyT k with
    | some (ks, ds), some j => some (lkD ks ds j)
    | _, _ => none)
theorem getD_ok {F : Fm} {S : Sto} {H : Hp} {x k : DV} {vx vk : V} {o : Option DV} (R : Rep F S H) (rx : Rel F x vx) (rk : Rel F k vk) (h : getD S x k = some o) : ∃ a r, vx = .ref a ∧ DGet H a vk r ∧ (∀ {d}, o = some d → ∃ v, r = some v ∧ Rel F d v) ∧ (o = none → r = none) := by
  unfold getD at h
  split at h
  · rename_i ks ds j h1 h2
    cases h
    obtain ⟨a, xs, rfl, hz, e, rl⟩ := asK_ok R rx h1
    obtain rfl := keyD_ok rk h2
    obtain ⟨i1, i2⟩ := lk_ok (F := F) j (ks := ks) rl
    exact ⟨a, _, rfl, .inl ⟨_, _, e, rfl, rfl⟩, fun {d} q => i1 q, fun q => i2 hz q⟩
  · split at h
    · rename_i ks ds j h1 h2
      cases h
      obtain ⟨a, xs, rfl, hz, e, rl⟩ := asKT_ok R rx h1
      unfold keyT at h2
      split at h2
      · rename_i es
        obtain ⟨b, us, rfl, hH, rb⟩ := tup_at R rk
        obtain rfl := keysD_ok rb h2
        obtain ⟨i1, i2⟩ := lk_ok (F := F) j (ks := ks) rl
        exact ⟨a, _, rfl, .inr ⟨_, _, b, e, rfl, hH, rfl⟩, fun {d} q => i1 q, fun q => i2 hz q⟩
      · cases h2
    · cases h
end Dn

namespace Dn
open PySem PySem.Spec PyProof.Rows L2

/-! ### in, not in -/
def pIn (neg : Bool) : P2 := fun x y S => match y with
  | .str b => (match x with
    | .str a => (match a.cps.toList with
      | [c] => some (.bl (if neg then !decide (c ∈ b.cps.toList) else decide (c ∈ b.cps.toList)), S)
      | _ => none)
    | _ => none)
  | .tup ds => if flD x = true ∧ ds.all flD = true then some (.bl (if neg then !inD x ds else inD x ds), S) else none
  | .tupx ds => if flD x = true ∧ ds.all flD = true then some (.bl (if neg then !inD x ds else inD x ds), S) else none
  | y => (match asL S y with
    | some ds => if flD x = true ∧ ds.all flD = true then some (.bl (if neg then !inD x ds else inD x ds), S) else
      (match cpD true S x, cpL true S ds with
      | some x', some ds' => (match toPy x', toPyL ds' with
        | some d, some es => if SeqAt.shaped d = true ∧ SeqAt.shaped (.list es) = true then some (.bl (if neg then !es.any (fun z => PyData.eqv z d) else es.any (fun z => PyData.eqv z d)), S) else none
        | _, _ => none)
      | _, _ => none)
    | none => (match getD S y x with
      | some o => some (.bl (if neg then !o.isSome else o.isSome), S)
      | none => none))
abbrev rInSign (neg : Bool) : R2 := fun x y H Q => ∃ (c : Nat) (z : Str), x = .str ⟨#[c]⟩ ∧ y = .str z ∧ Q (.bl (if neg then !decide (c ∈ z.cps.toList) else decide (c ∈ z.cps.toList))) H
abbrev rInSeq3 (K : PySem.W.Frag) (neg : Bool) : R2 := fun x y H Q => rInSign neg x y H Q ∨ (fun x y H Q => rIn K neg x y H Q ∨ (fun x y H Q => ∃ d ds, Dp K H x d ∧ Dp K H y (.list ds) ∧ SeqAt.shaped d = true ∧ SeqAt.shaped (.list ds) = true ∧ Q (.bl (if neg then !ds.any (fun z => PyData.eqv z d) else ds.any fun z => PyData.eqv z d)) H) x y H Q) x y H Q
abbrev rDIn (neg : Bool) : R2 := fun y x H Q => ∃ a o, x = .ref a ∧ DGet H a y o ∧ Q (.bl (if neg then !o.isSome else o.isSome)) H
theorem str_one {a : Str} {c : Nat} (h : a.cps.toList = [c]) : a = ⟨#[c]⟩ := by
  apply TL.ext_tl
  exact h
theorem ok_in {K : PySem.W.Frag} {neg : Bool} : Ok2 K (pIn neg) (fun x y H Q => rInSeq3 K neg x y H Q ∨ rDIn neg x y H Q) := fun F S H x y vx vy d S' Q hk R rx ry hp hq => by
  unfold pIn at hp
  split at hp
  · rename_i b
    split at hp
    · rename_i a
      split at hp
      · rename_i c hc
        cases hp
        refine .inl (.inl ⟨c, b, ?_, ry, hq F H _ (.refl F) R rfl⟩)
        rw [show vx = .str a from rx, str_one hc]
      · cases hp
    · cases hp
  · rename_i ds
    obtain ⟨⟨h1, h2⟩, h3⟩ := of_ite hp
    cases h3
    obtain ⟨a, xs, rfl, hs, rl⟩ := tup_sq R ry
    rw [hk] at hs
    obtain ⟨e1, e2⟩ := inD_ok rx h1 rl h2
    exact .inl (.inr (.inl ⟨a, xs, rfl, .inr hs, (flD_ok rx h1).1, e1, by rw [e2]; exact hq F H _ (.refl F) R rfl⟩))
  · rename_i ds
    obtain ⟨⟨h1, h2⟩, h3⟩ := of_ite hp
    cases h3
    obtain ⟨a, xs, rfl, hs, rl⟩ := tupx_sq R ry
    rw [hk] at hs
    obtain ⟨e1, e2⟩ := inD_ok rx h1 rl h2
    exact .inl (.inr (.inl ⟨a, xs, rfl, .inr hs, (flD_ok rx h1).1, e1, by rw [e2]; exact hq F H _ (.refl F) R rfl⟩))
  · split at hp
    · rename_i ds hL
      obtain ⟨a, xs, rfl, hs, rl⟩ := asL_sq R ry hL
      split at hp
      · rename_i hfl
        cases hp
        rw [hk] at hs
        obtain ⟨e1, e2⟩ := inD_ok rx hfl.1 rl hfl.2
        exact .inl (.inr (.inl ⟨a, xs, rfl, .inl hs, (flD_ok rx hfl.1).1, e1, by rw [e2]; exact hq F H _ (.refl F) R rfl⟩))
      · split at hp
        · rename_i x' ds' hx hds
          split at hp
          · rename_i d0 es hd0 hes
            obtain ⟨⟨s1, s2⟩, h3⟩ := of_ite hp
            cases h3
            have r1 : RelL ⟨F.K, F.G, H, fun _ => none, []⟩ [x'] [vx] := cpL_bor R (ds := [x]) (by unfold cpL mapDL mapDL; rw [show mapD true _ x = some x' from hx]) ⟨vx, [], rfl, rx, rfl⟩
            obtain ⟨_, _, e1, r1, _⟩ := r1
            cases e1
            have r2 := cpL_bor R hds rl
            have d1 := toPy_dp (F := ⟨F.K, F.G, H, fun _ => none, []⟩) R.g (Same.refl _) x' vx d0 r1 hd0
            have d2 := toPyL_dp (F := ⟨F.K, F.G, H, fun _ => none, []⟩) R.g (Same.refl _) ds' xs es r2 hes
            have k1 : Dp K H vx d0 := by rw [← hk]; exact d1
            have k2 : DpAll K H xs es := by rw [← hk]; exact d2
            rw [hk] at hs
            exact .inl (.inr (.inr ⟨d0, es, k1, .lst hs k2, s1, s2, hq F H _ (.refl F) R rfl⟩))
          · cases hp
        · cases hp
    · split at hp
      · rename_i o ho
        cases hp
        obtain ⟨a, r, rfl, hg, i1, i2⟩ := getD_ok R ry rx ho
        refine .inr ⟨a, r, rfl, hg, ?_⟩
        have e : r.isSome = o.isSome := by
          cases o with
          | none => rw [i2 rfl] <;> rfl
          | some d =>
            obtain ⟨v, e1, _⟩ := i1 rfl
            rw [e1] <;> rfl
        rw [e]
        exact hq F H _ (.refl F) R rfl
      · cases hp
section
variable {X : Cx} {a b : Expr} {f g : DE} {pos : Pos}
theorem op_in3 (hu : X.A.units + 64 + 1 < cLine) : OpR X (compareOp .In) (rInSeq3 X.K false) := op_in_sign.or (op_in_seq.or (op_inD (by omega)))
theorem op_notin3 (hu : X.A.units + 64 + 1 < cLine) : OpR X (compareOp .NotIn) (rInSeq3 X.K true) := op_notIn_sign.or (op_notIn_seq.or (op_notInD (by omega)))
theorem op_dIn (hu : X.A.units + 1 < cLine) : OpR X (compareOp .In) (rDIn false) := fun pins s σ H x y v u Q I rx ry h => by
  obtain ⟨d, o, rfl, g, q⟩ := h
  obtain rfl : u = Value.ref d := ry
  exact d_in hu I g rx fun s' I' => ⟨.bl o.isSome, H, I', rfl, q⟩
theorem op_dNotIn (hu : X.A.units + 1 < cLine) : OpR X (compareOp .NotIn) (rDIn true) := fun pins s σ H x y v u Q I rx ry h => by
  obtain ⟨d, o, rfl, g, q⟩ := h
  obtain rfl : u = Value.ref d := ry
  exact d_notIn hu I g rx fun s' I' => ⟨.bl (!o.isSome), H, I', rfl, q⟩
theorem hu65 {k : Nat} {A : Around} (hr : Room k A) : A.units + 64 + 1 < cLine := by have := hr.un; omega
theorem hu1 {k : Nat} {A : Around} (hr : Room k A) : A.units + 1 < cLine := by have := hr.un; omega
theorem hu64 {k : Nat} {A : Around} (hr : Room k A) : A.units + 64 < cLine := by have := hr.un; omega
theorem td_in {k : Nat} (hr : Room k X.A) (ha : ED X a f) (hb : ED X b g) (hm : behindInMarks .In b = false) : TD X (.Compare a [.In] [b] pos) (dBin (pIn false) f g) := td_cmp ((op_in3 (hu65 hr)).or (op_dIn (hu1 hr))) ok_in ha hb hm
theorem td_notin {k : Nat} (hr : Room k X.A) (ha : ED X a f) (hb : ED X b g) (hm : behindInMarks .NotIn b = false) : TD X (.Compare a [.NotIn] [b] pos) (dBin (pIn true) f g) := td_cmp ((op_notin3 (hu65 hr)).or (op_dNotIn (hu1 hr))) ok_in ha hb hm
/-! comparisons in short -/
theorem ed_eq {k : Nat} (hr : Room k X.A) (ha : ED X a f) (hb : ED X b g) : ED X (.Compare a [.Eq] [b] pos) (dBin (pEq false) f g) := ed_cmp (op_eq.or (op_eqD (hu64 hr))) ok_eq ha hb (nomark _)
theorem td_eq {k : Nat} (hr : Room k X.A) (ha : ED X a f) (hb : ED X b g) : TD X (.Compare a [.Eq] [b] pos) (dBin (pEq false) f g) := td_cmp (op_eq.or (op_eqD (hu64 hr))) ok_eq ha hb (nomark _)
theorem td_ne {k : Nat} (hr : Room k X.A) (ha : ED X a f) (hb : ED X b g) : TD X (.Compare a [.NotEq] [b] pos) (dBin (pEq true) f g) := td_cmp (op_ne.or (op_neD (hu64 hr))) ok_ne ha hb (nomark _)
theorem td_lt (ha : ED X a f) (hb : ED X b g) : TD X (.Compare a [.Lt] [b] pos) (dBin pLt f g) := td_cmp op_lt ok_cmp ha hb (nomark _)
theorem td_gt (ha : ED X a f) (hb : ED X b g) : TD X (.Compare a [.Gt] [b] pos) (dBin pGt f g) := td_cmp op_gt ok_cmp ha hb (nomark _)
theorem td_ge (ha : ED X a f) (hb : ED X b g) : TD X (.Compare a [.GtE] [b] pos) (dBin pGe f g) := td_cmp op_ge ok_cmp ha hb (nomark _)
theorem td_is (ha : ED X a f) (hb : ED X b g) : TD X (.Compare a [.Is] [b] pos) (dBin (pIs false) f g) := td_cmp op_isN ok_is ha hb (nomark _)
theorem td_isnot (ha : ED X a f) (hb : ED X b g) : TD X (.Compare a [.IsNot] [b] pos) (dBin (pIs true) f g) := td_cmp op_notN ok_isnot ha hb (nomark _)
theorem ed_add (ha : ED X a f) (hb : ED X b g) : ED X (.BinOp a .Add b pos) (dBin pAdd f g) := ed_bin op_addAll ok_add ha hb
theorem ed_mul (ha : ED X a f) (hb : ED X b g) : ED X (.BinOp a .Mult b pos) (dBin pMul f g) := ed_bin op_mulAll ok_mul ha hb
end

/-! ### subscripts -/
def atD (ds : List DV) (i : Int) : Option DV := (ixN ds.length i).bind fun j => ds[j]?
theorem atD_ok {F : Fm} {ds : List DV} {xs : List V} {i : Int} {d : DV} (r : RelL F ds xs) (h : atD ds i = some d) : ∃ v, atI xs i = some v ∧ Rel F d v := by
  unfold atD at h
  unfold atI
  rw [← r.length]
  cases e : ixN ds.length i with
  | none =>
    rw [e] at h
    cases h
  | some j =>
    rw [e] at h
    exact r.get (i := j) h
def pIx : P2 := fun x y S => match y with
  | .int i => (match x with
    | .tup ds => (match atD ds i with
      | some d => some (d, S)
      | none => none)
    | .tupx ds => (match atD ds i with
      | some d => some (d, S)
      | none => none)
    | .str s => if s.length ≤ sizeLine then (match atI s.cps.toList i with
      | some c => some (.str ⟨#[c]⟩, S)
      | none => none) else none
    | x => (match asL S x with
      | some ds => (match atD ds i with
        | some d => some (d, S)
        | none => none)
      | none => (match getD S x y with
        | some (some d) => some (d, S)
        | _ => none)))
  | y => (match getD S x y with
    | some (some d) => some (d, S)
    | _ => none)
abbrev rDIx : R2 := fun x y H Q => ∃ a v, x = .ref a ∧ DGet H a y (some v) ∧ Q v H
theorem ix_dict {X : Cx} (hu : X.A.units + 1 < cLine) : IxR X rDIx := by
  intro value slice pins s σ H x y v u Q I rx ry h hs
  obtain ⟨a, z, rfl, g, q⟩ := h
  obtain rfl : v = Value.ref a := rx
  have hT := dict_typeIs I g
  have hget : wpAny (model X.prog X.w) X.A (getItem (.ref a) u) (EP X pins σ Q) X.xe s := d_getItem hu I g ry fun w' s3 I3 rw' => ⟨z, H, I3, rw', q⟩
  unfold subscriptTail
  refine wpAny_bind ?_
  rw [getitemInPython_of_ne hT.not_modules]
  refine wpAny_bind (wpAny_specialOf hT PySem.F.slot_dict_getitem.lookup ?_)
  have fin : wpAny (model X.prog X.w) X.A (subscripted slice false (.ref a) u) (fun r s₃ => wpAny (model X.prog X.w) X.A (letTemporaryGo value (.ref a) r >>= fun _ => pure r) (EP X pins σ Q) X.xe s₃) X.xe s := by
    rw [hs]
    exact wpAny_operating (wpAny_mono hget (fun r s₃ h₃ => wpAny_bind (wpAny_letTemporaryGo (wpAny_pure h₃))) fun _ _ x => x)
  first
    | exact wpAny_pure (wpAny_bind fin)
    | exact wpAny_bind (wpAny_pure (wpAny_bind fin))
    | exact wpAny_bind fin
theorem ok_ix {K : PySem.W.Frag} : Ok2 K pIx (fun x y H Q => rIx K x y H Q ∨ rDIx x y H Q) := fun F S H x y vx vy d S' Q hk R rx ry hp hq => by
  have dict : ∀ {o : Option DV}, getD S x y = some o → (∀ e, o = some e → e = d) → S' = S → o.isSome = true → rDIx vx vy H Q := fun {o} h1 h2 h3 h4 => by
    subst h3
    obtain ⟨a, r, rfl, hg, i1, _⟩ := getD_ok R rx ry h1
    cases o with
    | none => cases h4
    | some e =>
      obtain ⟨v, rfl, e2⟩ := i1 rfl
      have := h2 e rfl
      subst this
      exact ⟨a, v, rfl, hg, hq F H _ (.refl F) R e2⟩
  unfold pIx at hp
  split at hp
  · rename_i i
    split at hp
    · split at hp
      · rename_i e he
        cases hp
        obtain ⟨a, xs, rfl, hs, rl⟩ := tup_sq R rx
        rw [hk] at hs
        obtain ⟨v, e1, e2⟩ := atD_ok rl he
        exact .inl (.inr (.inl ⟨a, xs, i, v, rfl, ry, hs, e1, hq F H _ (.refl F) R e2⟩))
      · cases hp
    · split at hp
      · rename_i e he
        cases hp
        obtain ⟨a, xs, rfl, hs, rl⟩ := tupx_sq R rx
        rw [hk] at hs
        obtain ⟨v, e1, e2⟩ := atD_ok rl he
        exact .inl (.inr (.inl ⟨a, xs, i, v, rfl, ry, hs, e1, hq F H _ (.refl F) R e2⟩))
      · cases hp
    · obtain ⟨h1, hp⟩ := of_ite hp
      split at hp
      · rename_i c hc
        cases hp
        exact .inl (.inr (.inr ⟨_, i, c, rx, ry, h1, hc, hq F H _ (.refl F) R rfl⟩))
      · cases hp
    · split at hp
      · rename_i ds hL
        split at hp
        · rename_i e he
          cases hp
          obtain ⟨a, xs, rfl, hs, rl⟩ := asL_sq R rx hL
          rw [hk] at hs
          obtain ⟨v, e1, e2⟩ := atD_ok rl he
          exact .inl (.inl ⟨a, xs, i, v, rfl, ry, hs, e1, hq F H _ (.refl F) R e2⟩)
        · cases hp
      · split at hp
        · rename_i e he
          cases hp
          exact .inr (dict he (fun e q => (Option.some.inj q).symm) rfl rfl)
        · cases hp
  · split at hp
    · rename_i e he
      cases hp
      exact .inr (dict he (fun e q => (Option.some.inj q).symm) rfl rfl)
    · cases hp
section
variable {X : Cx} {a b e : Expr} {f g : DE} {pos : Pos}
theorem ed_ix {k : Nat} (hr : Room k X.A) (ha : ED X a f) (hb : ED X b g) (hs : PlainIx b) : ED X (.Subscript a b pos) (dBin pIx f g) :=
  .of (pe_ix (IxR.or ix_seq (ix_dict (hu1 hr))) ha.pe hb.pe hs) fun F S H ρ σ d S' Q hk R rr hf hq => bin_go ok_ix hk R rr hf hq

/-! ### slices -/
def cutD (ds : List DV) (lo hi : Option Int) : List DV := (ds.drop (HT.sIx ds.length 0 lo)).take (HT.sIx ds.length ds.length hi - HT.sIx ds.length 0 lo)
theorem cutD_ok {F : Fm} {ds : List DV} {xs : List V} {lo hi : Option Int} (r : RelL F ds xs) : RelL F (cutD ds lo hi) (cutV xs lo hi) := by
  unfold cutD cutV
  rw [r.length]
  exact (r.drop _).take _
abbrev DO := Ev → Sto → Option (Option Int × Sto)
def oNone : DO := fun _ S => some (none, S)
def oSome (f : DE) : DO := fun ρ S => match f ρ S with
  | some (.int i, S1) => some (some i, S1)
  | _ => none
structure OD (X : Cx) (e : Option Expr) (t : TO) (f : DO) : Prop where
  po : PO X e t
  go : ∀ F S H ρ σ o S' (Q : Option Int → Hp → Prop), F.K = X.K → Rep F S H → RelE F ρ σ → f ρ S = some (o, S') → (∀ F' H', Le F F' → F'.K = X.K → Rep F' S' H' → RelE F' ρ σ → Q o H') → t σ H Q
theorem od_none : OD X none tNoPart oNone := ⟨po_none, fun F S H ρ σ o S' Q hk R rr hf hq => by
  cases (show some ((none : Option Int), S) = some (o, S') from hf)
  exact hq F H (.refl F) hk R rr⟩
theorem od_some (h : ED X e f) : OD X (some e) (tPart (rdE X.K f)) (oSome f) := ⟨po_some h.pe, fun F S H ρ σ o S' Q hk R rr hf hq => by
  unfold oSome at hf
  split at hf
  · rename_i i S1 h1
    cases hf
    exact rdE.go hk R rr h1 fun F1 H1 v le hk1 R1 r1 rv => ⟨i, rv, hq F1 H1 le hk1 R1 r1⟩
  · cases hf⟩
def pSl (x : DV) (lo hi : Option Int) (S : Sto) : Option (DV × Sto) := match x with
  | .tup ds => some (.tup (cutD ds lo hi), S)
  | .str s => if s.length ≤ sizeLine then some (.str (cutS s lo hi), S) else none
  | x => (match asL S x with
    | some ds => some (.lst .own (cutD ds lo hi), S)
    | none => none)
def dSl (p : DV → Option Int → Option Int → Sto → Option (DV × Sto)) (f : DE) (lo hi : DO) : DE := fun ρ S => match f ρ S with
  | some (x, S1) => (match lo ρ S1 with
    | some (l, S2) => (match hi ρ S2 with
      | some (u, S3) => p x l u S3
      | none => none)
    | none => none)
  | none => none
def OkSl (K : PySem.W.Frag) (p : DV → Option Int → Option Int → Sto → Option (DV × Sto)) (r : V → Option Int → Option Int → Hp → VK → Prop) : Prop :=
  ∀ F S H x vx lo hi d S' Q, F.K = K → Rep F S H → Rel F x vx → p x lo hi S = some (d, S') → PostE F S' d Q → r vx lo hi H Q
theorem sl_go {K : PySem.W.Frag} {p : DV → Option Int → Option Int → Sto → Option (DV × Sto)} {r : V → Option Int → Option Int → Hp → VK → Prop} {lo hi : Option Expr} {tl th : TO} {l u : DO} (hp : OkSl X.K p r) (h1 : OD X lo tl l) (h2 : OD X hi th u) {F : Fm} {S S' : Sto} {H : Hp} {ρ : Ev} {σ : L2.St} {d : DV} {Q : VK}
    (hk : F.K = X.K) (R : Rep F S H) (rr : RelE F ρ σ) (hf : dSl p f l u ρ S = some (d, S')) (hq : PostE F S' d Q) : tSl r (rdE X.K f) tl th σ H Q := by
  unfold dSl at hf
  split at hf
  · rename_i x S1 e1
    split at hf
    · rename_i l1 S2 e2
      split at hf
      · rename_i u1 S3 e3
        exact rdE.go hk R rr e1 fun F1 H1 v le hk1 R1 r1 rv => h1.go F1 S1 H1 ρ σ l1 S2 _ hk1 R1 r1 e2 fun F2 H2 le2 hk2 R2 r2 => h2.go F2 S2 H2 ρ σ u1 S3 _ hk2 R2 r2 e3 fun F3 H3 le3 hk3 R3 r3 =>
          hp F3 S3 H3 x v l1 u1 d S' Q hk3 R3 (rv.le (le2.trans le3)) hf (hq.le ((le.trans le2).trans le3))
      · cases hf
    · cases hf
  · cases hf
theorem ok_sl {K : PySem.W.Frag} : OkSl K pSl (fun x lo hi H Q => rSlL K x lo hi H Q ∨ (fun x lo hi H Q => rSlA K x lo hi H Q ∨ rSlS x lo hi H Q) x lo hi H Q) := fun F S H x vx lo hi d S' Q hk R rx hp hq => by
  unfold pSl at hp
  split at hp
  · rename_i ds
    cases hp
    obtain ⟨a, xs, e, hs, rl⟩ := tup_sq R rx
    rw [hk] at hs
    refine .inr (.inl ⟨a, xs, e, hs, fun hw => ?_, fun _ => new_tup R (cutD_ok rl) hq⟩)
    refine hq F H _ (.refl F) R ?_
    have e2 : cutD ds lo hi = ds := by
      unfold cutD
      rw [rl.length, hw.1, hw.2]
      rw [List.drop_zero, Nat.sub_zero, ← rl.length, List.take_length]
    rw [e2, ← e]
    exact rx
  · obtain ⟨h1, h2⟩ := of_ite hp
    cases h2
    exact .inr (.inr ⟨_, rx, h1, hq F H _ (.refl F) R rfl⟩)
  · split at hp
    · rename_i ds hL
      cases hp
      obtain ⟨a, xs, rfl, hs, rl⟩ := asL_sq R rx hL
      rw [hk] at hs
      exact .inl ⟨a, xs, rfl, hs, new_lst R (cutD_ok rl) hq⟩
    · cases hp
theorem ed_sl {lo hi : Option Expr} {tl th : TO} {l u : DO} {p2 : Pos} (ha : ED X a f) (h1 : OD X lo tl l) (h2 : OD X hi th u) : ED X (.Subscript a (.Slice lo hi none p2) pos) (dSl pSl f l u) :=
  .of (pe_slice (sl_list.or (sl_tupA.or sl_str)) ha.pe h1.po h2.po) fun F S H ρ σ d S' Q hk R rr hf hq => sl_go (K := X.K) ok_sl h1 h2 hk R rr hf hq
end
end Dn

namespace Dn
open PySem PySem.Spec PyProof.Rows L2

/-! ### built-ins -/
def pLen : PL := fun xs S => match xs with
  | [.str s] => if s.length ≤ sizeLine then some (.int s.length, S) else none
  | [.tup ds] => some (.int ds.length, S)
  | [.tupx ds] => some (.int ds.length, S)
  | [x] => (match asL S x with
    | some ds => some (.int ds.length, S)
    | none => (match asK0 S x with
      | some (ks, _) => some (.int ks.length, S)
      | none => (match asKT0 S x with
        | some (ks, _) => some (.int ks.length, S)
        | none => none)))
  | _ => none
abbrev rLenAll (K : PySem.W.Frag) : List V → Hp → VK → Prop := fun xs H Q => (∃ x n, xs = [x] ∧ LenV K x H n ∧ Q (.int n) H) ∨ (fun xs H Q => (∃ a kvs, xs = [V.ref a] ∧ H a = some (.dK kvs) ∧ Q (.int kvs.length) H) ∨ rLenT xs H Q) xs H Q
theorem call_lenAll {X : Cx} : CallR X (.builtin "len") (rLenAll X.K) := call_len.or (call_lenD.or call_len_dT)
theorem ok_len {K : PySem.W.Frag} : OkL K pLen (rLenAll K) := fun F S H xs vs d S' Q hk R r hp hq => by
  unfold pLen at hp
  split at hp
  · rename_i s
    obtain ⟨h1, h2⟩ := of_ite hp
    cases h2
    obtain ⟨v, _, rfl, rv, e⟩ := r
    obtain rfl := (show _ = [] from e)
    exact .inl ⟨v, s.length, rfl, by rw [show v = .str s from rv]; exact ⟨h1, rfl⟩, hq F H _ (.refl F) R rfl⟩
  · rename_i ds
    cases hp
    obtain ⟨v, _, rfl, rv, e⟩ := r
    obtain rfl := (show _ = [] from e)
    obtain ⟨a, us, rfl, hs, rl⟩ := tup_sq R rv
    rw [hk] at hs
    exact .inl ⟨_, us.length, rfl, .inr ⟨us, hs, rfl⟩, by rw [← rl.length]; exact hq F H _ (.refl F) R rfl⟩
  · rename_i ds
    cases hp
    obtain ⟨v, _, rfl, rv, e⟩ := r
    obtain rfl := (show _ = [] from e)
    obtain ⟨a, us, rfl, hs, rl⟩ := tupx_sq R rv
    rw [hk] at hs
    exact .inl ⟨_, us.length, rfl, .inr ⟨us, hs, rfl⟩, by rw [← rl.length]; exact hq F H _ (.refl F) R rfl⟩
  · obtain ⟨v, _, rfl, rv, e⟩ := r
    obtain rfl := (show _ = [] from e)
    split at hp
    · rename_i ds hL
      cases hp
      obtain ⟨a, us, rfl, hs, rl⟩ := asL_sq R rv hL
      rw [hk] at hs
      exact .inl ⟨_, us.length, rfl, .inl ⟨us, hs, rfl⟩, by rw [← rl.length]; exact hq F H _ (.refl F) R rfl⟩
    · split at hp
      · rename_i ks ds hK
        cases hp
        obtain ⟨a, us, rfl, hz, hs, rl⟩ := asK0_ok R rv hK
        refine .inr (.inl ⟨a, _, rfl, hs, ?_⟩)
        have e : (ks.zip us).length = ks.length := by
          rw [List.length_zip, ← rl.length, hz, Nat.min_self]
        rw [e]
        exact hq F H _ (.refl F) R rfl
      · split at hp
        · rename_i ks ds hK
          cases hp
          obtain ⟨a, us, rfl, hz, hs, rl⟩ := asKT0_ok R rv hK
          refine .inr (.inr ⟨a, _, rfl, hs, ?_⟩)
          have e : (ks.zip us).length = ks.length := by
            rw [List.length_zip, ← rl.length, hz, Nat.min_self]
          rw [e]
          exact hq F H _ (.refl F) R rfl
        · cases hp
  · cases hp
/-- int(..) of an int, a truth, a text -/
def pInt : PL := fun xs S => match xs with
  | [.int i] => some (.int i, S)
  | [.bl b] => some (.int (if b then 1 else 0), S)
  | [.str a] => if a.length ≤ 640 then (match PySem.intText? a with
    | some n => some (.int n, S)
    | none => none) else none
  | _ => none
theorem rel1 {F : Fm} {d : DV} {v : V} (h : Rel F d v) : RelL F [d] [v] := ⟨v, [], rfl, h, rfl⟩
theorem one {F : Fm} {d : DV} {vs : List V} (r : RelL F [d] vs) : ∃ v, vs = [v] ∧ Rel F d v := by
  obtain ⟨v, _, rfl, rv, e⟩ := r
  obtain rfl := (show _ = [] from e)
  exact ⟨v, rfl, rv⟩
theorem two {F : Fm} {d e : DV} {vs : List V} (r : RelL F [d, e] vs) : ∃ v u, vs = [v, u] ∧ Rel F d v ∧ Rel F e u := by
  obtain ⟨v, _, rfl, rv, r⟩ := r
  obtain ⟨u, rfl, ru⟩ := one r
  exact ⟨v, u, rfl, rv, ru⟩
abbrev rIntAll : List V → Hp → VK → Prop := fun xs H Q => ((∃ i, xs = [.int i] ∧ Q (.int i) H) ∨ ∃ k, xs = [.bl k] ∧ Q (.int (if k then 1 else 0)) H) ∨ (∃ a n, xs = [.str a] ∧ PySem.intText? a = some n ∧ a.length ≤ 640 ∧ Q (.int n) H)
theorem call_intAll {X : Cx} : CallR X (.type "int") rIntAll := call_int1.or call_int_str
theorem ok_int {K : PySem.W.Frag} : OkL K pInt rIntAll := fun F S H xs vs d S' Q hk R r hp hq => by
  unfold pInt at hp
  split at hp
  · rename_i i
    cases hp
    obtain ⟨v, rfl, rv⟩ := one r
    obtain rfl := (show v = .int i from rv)
    exact .inl (.inl ⟨i, rfl, hq F H _ (.refl F) R rfl⟩)
  · rename_i b
    cases hp
    obtain ⟨v, rfl, rv⟩ := one r
    obtain rfl := (show v = .bl b from rv)
    exact .inl (.inr ⟨b, rfl, hq F H _ (.refl F) R rfl⟩)
  · rename_i a
    obtain ⟨h1, hp⟩ := of_ite hp
    split at hp
    · rename_i n hn
      cases hp
      obtain ⟨v, rfl, rv⟩ := one r
      obtain rfl := (show v = .str a from rv)
      exact .inr ⟨a, n, rfl, hn, h1, hq F H _ (.refl F) R rfl⟩
    · cases hp
  · cases hp
/-- list(..), tuple(..) -/
def kdv : Key → DV
  | .inl i => .int i
  | .inr s => .str s
def itemsD (S : Sto) (x : DV) : Option (List DV) := match x with
  | .tup ds => some ds
  | .tupx ds => some ds
  | x => asL S x
def pList : PL := fun xs S => match xs with
  | [x] => (match itemsD S x with
    | some ds => some (.lst .own ds, S)
    | none => (match asK0 S x with
      | some (ks, _) => some (.lst .own (ks.map kdv), S)
      | none => (match asKT S x with
        | some (ks, _) => some (.lst .own (ks.map fun k => .tup (k.map kdv)), S)
        | none => none)))
  | _ => none
def pTuple : PL := fun xs S => match xs with
  | [.tup ds] => some (.tup ds, S)
  | [x] => (match asL S x with
    | some ds => some (.tup ds, S)
    | none => none)
  | _ => none
theorem itemsD_sq {F : Fm} {S : Sto} {H : Hp} {x : DV} {v : V} {ds : List DV} (R : Rep F S H) (r : Rel F x v) (h : itemsD S x = some ds) : ∃ a xs, v = .ref a ∧ (SqL F.K H a xs ∨ SqT F.K H a xs) ∧ RelL F ds xs := by
  unfold itemsD at h
  split at h
  · cases h
    obtain ⟨a, us, rfl, hs, rl⟩ := tup_sq R r
    exact ⟨a, us, rfl, .inr hs, rl⟩
  · cases h
    obtain ⟨a, us, rfl, hs, rl⟩ := tupx_sq R r
    exact ⟨a, us, rfl, .inr hs, rl⟩
  · obtain ⟨a, us, rfl, hs, rl⟩ := asL_sq R r h
    exact ⟨a, us, rfl, .inl hs, rl⟩
abbrev rTupAll (K : PySem.W.Frag) : List V → Hp → VK → Prop := fun xs H Q => ∃ p ys, xs = [.ref p] ∧ ((SqL K H p ys ∧ ∀ l, H l = none → Q (.ref l) (upd H l (.tup ys))) ∨ (SqT K H p ys ∧ Q (.ref p) H))
theorem ok_tuple {K : PySem.W.Frag} : OkL K pTuple (rTupAll K) := fun F S H xs vs d S' Q hk R r hp hq => by
  unfold pTuple at hp
  split at hp
  · rename_i ds
    cases hp
    obtain ⟨v, rfl, rv⟩ := one r
    obtain ⟨a, us, e, hs, rl⟩ := tup_sq R rv
    rw [hk] at hs
    exact ⟨a, us, by rw [e], .inr ⟨hs, by rw [← e]; exact hq F H _ (.refl F) R rv⟩⟩
  · obtain ⟨v, rfl, rv⟩ := one r
    split at hp
    · rename_i ds hL
      cases hp
      obtain ⟨a, us, rfl, hs, rl⟩ := asL_sq R rv hL
      rw [hk] at hs
      exact ⟨a, us, rfl, .inl ⟨hs, new_tup R rl hq⟩⟩
    · cases hp
  · cases hp
/-! isinstance(x, T), T a built-in class -/
inductive Ty7 where
  | non | bool | int | str | list | tuple | dict
  deriving DecidableEq
def Ty7.name : Ty7 → String
  | .non => "NoneType"
  | .bool => "bool"
  | .int => "int"
  | .str => "str"
  | .list => "list"
  | .tuple => "tuple"
  | .dict => "dict"
def isT : Ty7 → Ty7 → Bool
  | .bool, .int => true
  | a, b => decide (a = b)
theorem isT_ok : ∀ a b : Ty7, b ≠ .non → kitB a.name b.name = some (isT a b) := by
  intro a b h
  cases a <;> cases b <;> first | exact absurd rfl h | rfl | decide +kernel
def tyD (S : Sto) : DV → Option Ty7
  | .non => some .non
  | .bl _ => some .bool
  | .int _ => some .int
  | .str _ => some .str
  | .tup _ => some .tuple
  | .lst .own _ => some .list
  | .lst .bor _ => some .list
  | .dik _ _ _ => some .dict
  | .dit _ _ _ => some .dict
  | .loc n => match S[n]? with
    | some (.lst _) => some .list
    | some (.dik _ _) => some .dict
    | some (.dit _ _) => some .dict
    | some (.frz (.lst .own _)) => some .list
    | _ => none
  | _ => none
theorem tyD_ok {F : Fm} {S : Sto} {H : Hp} {d : DV} {v : V} {t : Ty7} (R : Rep F S H) (r : Rel F d v) (h : tyD S d = some t) : TyX F.K H v (.type t.name) := by
  cases d with
  | non =>
    cases h
    obtain rfl := (show v = _ from r)
    exact .base .non
  | bl b =>
    cases h
    obtain rfl := (show v = _ from r)
    exact .base (.bl b)
  | int b =>
    cases h
    obtain rfl := (show v = _ from r)
    exact .base (.int b)
  | str b =>
    cases h
    obtain rfl := (show v = _ from r)
    exact .base (.str b)
  | tup ds =>
    cases h
    obtain ⟨a, xs, rfl, hs, _⟩ := tup_at R r
    exact .base (.tup hs)
  | tupx ds => cases h
  | exc _ _ _ => cases h
  | lst k ds =>
    cases k with
    | own =>
      cases h
      obtain ⟨a, xs, rfl, hs, _⟩ := r
      exact .base (.lst (R.g _ _ hs))
    | bor =>
      cases h
      obtain ⟨a, xs, rfl, hs, _⟩ := r
      exact .base (.lst (hs.elim (R.b _ _) (R.g _ _)))
    | ext => cases h
  | dik k ks ds =>
    cases h
    obtain ⟨a, xs, rfl, _, hs, _⟩ := r
    exact .base (.dK (hs.elim (R.g _ _) fun h => R.b _ _ h.2))
  | dit k ks ds =>
    cases h
    obtain ⟨a, xs, rfl, _, hs, _⟩ := r
    exact .base (.dT (hs.elim (R.g _ _) fun h => R.b _ _ h.2))
  | loc n =>
    obtain ⟨a, ha, rfl⟩ := r
    unfold tyD at h
    simp only at h
    split at h
    · rename_i es hc
      cases h
      obtain ⟨⟨xs, e, rl⟩, _⟩ := R.cell n _ a hc ha
      exact .base (.lst e)
    · rename_i es fs hc
      cases h
      obtain ⟨⟨xs, hz, e, rl⟩, _⟩ := R.cell n _ a hc ha
      exact .base (.dK e)
    · rename_i es fs hc
      cases h
      obtain ⟨⟨xs, hz, e, rl⟩, _⟩ := R.cell n _ a hc ha
      exact .base (.dT e)
    · rename_i es hc
      cases h
      obtain ⟨rl, _⟩ := R.cell n _ a hc ha
      obtain ⟨b, xs, e1, hs, _⟩ := (show Rel F (.lst .own es) (.ref a) from rl)
      cases e1
      exact .base (.lst (R.g _ _ hs))
    · cases h
def dIsi (T : Ty7) (f : DE) : DE := fun ρ S => match f ρ S with
  | some (x, S1) => (match tyD S1 x with
    | some t => some (.bl (isT t T), S1)
    | none => none)
  | none => none
section
variable {X : Cx} {e a b : Expr} {f g : DE} {pos : Pos}
theorem isi_go {T : Ty7} (hT : T ≠ .non) {F : Fm} {S S' : Sto} {H : Hp} {ρ : Ev} {σ : L2.St} {d : DV} {Q : VK} (hk : F.K = X.K) (R : Rep F S H) (rr : RelE F ρ σ) (hf : dIsi T f ρ S = some (d, S')) (hq : PostE F S' d Q) :
    tCB (rIsi X.K) (tCons (rdE X.K f) (tCons (tC (.ty T.name)) tNil)) σ H Q := by
  unfold dIsi at hf
  split at hf
  · rename_i x S1 h1
    split at hf
    · rename_i t ht
      cases hf
      refine rdE.go hk R rr h1 fun F1 H1 v le hk1 R1 r1 rv => ?_
      have ty := tyD_ok R1 rv ht
      rw [hk1] at ty
      exact ⟨v, .ty T.name, .type t.name, .type T.name, isT t T, rfl, .ty _, ty, kit_ty (isT_ok t T hT), hq F1 H1 _ le R1 rfl⟩
    · cases hf
  · cases hf
theorem ed_isi {T : Ty7} (hT : T ≠ .non) (ha : ED X a f) (h : ∀ {t : TE}, PE X a t → PE X e (tCB (rIsi X.K) (tCons t (tCons (tC (.ty T.name)) tNil)))) : ED X e (dIsi T f) :=
  .of (h ha.pe) fun F S H ρ σ d S' Q hk R rr hf hq => isi_go hT hk R rr hf hq
end
/-! min, max, sum, any, all -/
def intsD : List DV → Option (List Int)
  | [] => some []
  | .int i :: ds => (match intsD ds with
    | some is => some (i :: is)
    | none => none)
  | _ => none
def strsD : List DV → Option (List Str)
  | [] => some []
  | .str i :: ds => (match strsD ds with
    | some is => some (i :: is)
    | none => none)
  | _ => none
theorem intsD_ok {F : Fm} : ∀ {ds : List DV} {vs : List V} {is : List Int}, RelL F ds vs → intsD ds = some is → vs = is.map V.int
  | [], vs, is, r, h => by
    cases (show some ([] : List Int) = some is from h)
    exact r
  | d :: ds, vs, is, r, h => by
    unfold intsD at h
    split at h
    · rename_i e
      cases e
    · rename_i i ds' e
      cases e
      split at h
      · rename_i js hj
        cases h
        obtain ⟨x, xr, rfl, h1, h2⟩ := r
        rw [intsD_ok h2 hj, show x = .int i from h1] <;> rfl
      · cases h
    · cases h
theorem strsD_ok {F : Fm} : ∀ {ds : List DV} {vs : List V} {is : List Str}, RelL F ds vs → strsD ds = some is → vs = is.map V.str
  | [], vs, is, r, h => by
    cases (show some ([] : List Str) = some is from h)
    exact r
  | d :: ds, vs, is, r, h => by
    unfold strsD at h
    split at h
    · rename_i e
      cases e
    · rename_i i ds' e
      cases e
      split at h
      · rename_i js hj
        cases h
        obtain ⟨x, xr, rfl, h1, h2⟩ := r
        rw [strsD_ok h2 hj, show x = .str i from h1] <;> rfl
      · cases h
    · cases h
def maxI : List Int → Option Int
  | [] => none
  | [i] => some i
  | i :: is => match maxI is with
    | some j => some (if j ≤ i then i else j)
    | none => none
theorem maxI_ok : ∀ {is : List Int} {m : Int}, maxI is = some m → m ∈ is ∧ ∀ y ∈ is, y ≤ m
  | [], m, h => by cases h
  | [i], m, h => by
    cases h
    exact ⟨List.mem_singleton.mpr rfl, fun y hy => by rw [List.mem_singleton.mp hy]; exact Int.le_refl _⟩
  | i :: j :: is, m, h => by
    unfold maxI at h
    split at h
    · rename_i k hk
      cases h
      obtain ⟨h1, h2⟩ := maxI_ok hk
      split
      · rename_i hle
        refine ⟨List.mem_cons_self, fun y hy => ?_⟩
        rcases List.mem_cons.mp hy with rfl | hy
        · exact Int.le_refl _
        · exact Int.le_trans (h2 y hy) hle
      · rename_i hle
        refine ⟨List.mem_cons_of_mem _ h1, fun y hy => ?_⟩
        rcases List.mem_cons.mp hy with rfl | hy
        · omega
        · exact h2 y hy
    · cases h
def pMax : PL := fun xs S => match xs with
  | [.int i, .int j] => some (.int (if j > i then j else i), S)
  | [x] => (match asL S x with
    | some ds => (match intsD ds with
      | some is => (match maxI is with
        | some m => some (.int m, S)
        | none => none)
      | none => none)
    | none => none)
  | _ => none
abbrev rMaxAll (K : PySem.W.Frag) : List V → Hp → VK → Prop := fun xs H Q => (∃ i j : Int, xs = [.int i, .int j] ∧ Q (.int (if j > i then j else i)) H) ∨ rMax K xs H Q
theorem call_maxAll {X : Cx} (hc : X.calm = true) : CallR X (.builtin "max") (rMaxAll X.K) := (call_max2 hc).or (cr_max hc)
theorem ok_max {K : PySem.W.Frag} : OkL K pMax (rMaxAll K) := fun F S H xs vs d S' Q hk R r hp hq => by
  unfold pMax at hp
  split at hp
  · rename_i i j
    cases hp
    obtain ⟨v, u, rfl, rv, ru⟩ := two r
    obtain rfl := (show v = .int i from rv)
    obtain rfl := (show u = .int j from ru)
    exact .inl ⟨i, j, rfl, hq F H _ (.refl F) R rfl⟩
  · obtain ⟨v, rfl, rv⟩ := one r
    split at hp
    · rename_i ds hL
      split at hp
      · rename_i is his
        split at hp
        · rename_i m hm
          cases hp
          obtain ⟨a, us, rfl, hs, rl⟩ := asL_sq R rv hL
          rw [hk] at hs
          obtain rfl := intsD_ok rl his
          obtain ⟨m1, m2⟩ := maxI_ok hm
          refine .inr ⟨a, is, rfl, hs, List.length_pos_iff.mpr (List.ne_nil_of_mem m1), fun m' h1 h2 => ?_⟩
          have e : m' = m := Int.le_antisymm (m2 _ h1) (h2 _ m1)
          rw [e]
          exact hq F H _ (.refl F) R rfl
        · cases hp
      · cases hp
    · cases hp
  · cases hp
end Dn

namespace Dn
open PySem PySem.Spec PyProof.Rows L2

/-! ### methods of lists -/
abbrev PM := DV → List DV → Sto → Option (DV × Sto)
def dMt (p : PM) (f : DE) (fa : DA) : DE := fun ρ S => match f ρ S with
  | some (x, S1) => (match asL S1 x with
    | some _ => (match fa ρ S1 with
      | some (xs, S2) => p x xs S2
      | none => none)
    | none => none)
  | none => none
def OkM (K : PySem.W.Frag) (p : PM) (r : V → List V → Hp → VK → Prop) : Prop := ∀ F S H x vx xs vs d S' Q, F.K = K → Rep F S H → Rel F x vx → RelL F xs vs → p x xs S = some (d, S') → PostE F S' d Q → r vx vs H Q
section
variable {X : Cx} {e a b o : Expr} {f g : DE} {fa : DA} {pos : Pos} {st : Stmt}
theorem mt_go {p : PM} {r : V → List V → Hp → VK → Prop} (hp : OkM X.K p r) {F : Fm} {S S' : Sto} {H : Hp} {ρ : Ev} {σ : L2.St} {d : DV} {Q : VK} (hk : F.K = X.K) (R : Rep F S H) (rr : RelE F ρ σ) (hf : dMt p f fa ρ S = some (d, S')) (hq : PostE F S' d Q) :
    tBM X.K "list" r (rdE X.K f) (rdA X.K fa) σ H Q := by
  unfold dMt at hf
  split at hf
  · rename_i x S1 h1
    split at hf
    · rename_i ds hL
      split at hf
      · rename_i xs S2 h2
        refine rdE.go hk R rr h1 fun F1 H1 v le hk1 R1 r1 rv => ?_
        obtain ⟨l, us, rfl, hs, rl⟩ := asL_sq R1 rv hL
        rw [hk1] at hs
        refine ⟨.inl ⟨rfl, us, hs⟩, rdA.go hk1 R1 r1 h2 fun F2 H2 vs le2 hk2 R2 r2 ra => ?_⟩
        exact hp F2 S2 H2 x _ xs vs d S' Q hk2 R2 (rv.le le2) ra hf (hq.le (le.trans le2))
      · cases hf
    · cases hf
  · cases hf
theorem ed_mt {es : List Expr} {p : PM} {r : V → List V → Hp → VK → Prop} (hp : OkM X.K p r) (ho : ED X o f) (ha : AD X es fa) (h : ∀ {t : TA} {u : TE}, PE X o u → PA X es t → PE X e (tBM X.K "list" r u t)) : ED X e (dMt p f fa) :=
  .of (h ho.pe ha.pa) fun F S H ρ σ d S' Q hk R rr hf hq => mt_go hp hk R rr hf hq
end
def pAppend : PM := fun x xs S => match x, xs with
  | .loc n, [y] => (match S[n]? with
    | some (.lst ds) => if ds.length < sizeLine then some (.non, S.set n (.lst (ds ++ [y]))) else none
    | _ => none)
  | _, _ => none
theorem lst_write {F : Fm} {S : Sto} {H : Hp} {n : Nat} {ds es : List DV} {vs us : List V} {a : Addr} {v : V} {d : DV} {Q : VK} (R : Rep F S H) (hc : S[n]? = some (.lst ds)) (ha : F.lm[n]? = some a) (rl : RelL F es us) (rd : Rel F d v) (hq : PostE F (S.set n (.lst es)) d Q) : Q v (upd H a (.lst us)) :=
  hq F _ v (.refl F) (R.write hc rfl ha (fun _ q => nomatch q) rfl ⟨us, upd_same, rl⟩) rd
section
variable {K : PySem.W.Frag}
theorem ok_append : OkM K pAppend rAppend := fun F S H x vx xs vs d S' Q hk R rx rl hp hq => by
  unfold pAppend at hp
  split at hp
  · rename_i n y
    split at hp
    · rename_i ds hc
      obtain ⟨h1, h2⟩ := of_ite hp
      cases h2
      obtain ⟨a, ha, rfl⟩ := rx
      obtain ⟨v, rfl, rv⟩ := one rl
      obtain ⟨⟨us, e, ru⟩, _⟩ := R.cell n _ a hc ha
      exact ⟨a, us, v, rfl, rfl, e, by rw [← ru.length]; exact h1, lst_write (vs := us) R hc ha (us := us ++ [v]) (ru.append (rel1 rv)) (d := .non) (v := .non) rfl hq⟩
    · cases hp
  · cases hp
end

/-! ### methods of texts with one argument -/
def dM1 (p : Str → DV → Sto → Option (DV × Sto)) (f g : DE) : DE := fun ρ S => match f ρ S with
  | some (.str a, S1) => (match g ρ S1 with
    | some (y, S2) => p a y S2
    | none => none)
  | _ => none
section
variable {X : Cx} {e a b o : Expr} {f g : DE} {fa : DA} {pos : Pos} {st : Stmt}
theorem ed_m1 {p : Str → DV → Sto → Option (DV × Sto)} {r : V → List V → Hp → VK → Prop} (hp : ∀ F S H x y vy d S' Q, F.K = X.K → Rep F S H → Rel F y vy → p x y S = some (d, S') → PostE F S' d Q → r (.str x) [vy] H Q)
    (ho : ED X o f) (hb : ED X b g) (h : ∀ {t u : TE}, PE X o t → PE X b u → PE X e (tM1 r t u)) : ED X e (dM1 p f g) :=
  .of (h ho.pe hb.pe) fun F S H ρ σ d S' Q hk R rr hf hq => by
    unfold dM1 at hf
    split at hf
    · rename_i x S1 h1
      split at hf
      · rename_i y S2 h2
        refine rdE.go hk R rr h1 fun F1 H1 v le hk1 R1 r1 rv => ⟨⟨x, rv⟩, rdE.go hk1 R1 r1 h2 fun F2 H2 u le2 hk2 R2 r2 ru => ?_⟩
        obtain rfl := (show v = .str x from rv)
        exact hp F2 S2 H2 x y u d S' Q hk2 R2 ru hf (hq.le (le.trans le2))
      · cases hf
    · cases hf
def pJoin : Str → DV → Sto → Option (DV × Sto) := fun a y S => match itemsD S y with
  | some ds => (match strsD ds with
    | some ys => if (ys.map (·.length)).sum + ys.length * a.length ≤ 16777216 then some (.str (Txt.join a ys), S) else none
    | none => none)
  | none => none
theorem ok_join {K : PySem.W.Frag} (F : Fm) (S : Sto) (H : Hp) (x : Str) (y : DV) (vy : V) (d : DV) (S' : Sto) (Q : VK) (hk : F.K = K) (R : Rep F S H) (ry : Rel F y vy) (hp : pJoin x y S = some (d, S')) (hq : PostE F S' d Q) :
    ∃ a p, ∃ ys : List Str, V.str x = .str a ∧ [vy] = [.ref p] ∧ (SqL K H p (ys.map V.str) ∨ SqT K H p (ys.map V.str)) ∧ (ys.map (·.length)).sum + ys.length * a.length ≤ 16777216 ∧ Q (.str (Txt.join a ys)) H := by
  unfold pJoin at hp
  split at hp
  · rename_i ds hL
    split at hp
    · rename_i ys hy
      obtain ⟨h1, h2⟩ := of_ite hp
      cases h2
      obtain ⟨p, us, rfl, hs, rl⟩ := itemsD_sq R ry hL
      rw [hk] at hs
      obtain rfl := strsD_ok rl hy
      exact ⟨x, p, ys, rfl, rfl, hs, h1, hq F H _ (.refl F) R rfl⟩
    · cases hp
  · cases hp
theorem ints_rel {F : Fm} : ∀ ys : List Int, RelL F (ys.map DV.int) (ys.map V.int)
  | [] => rfl
  | y :: ys => ⟨_, _, rfl, rfl, ints_rel ys⟩
/-! ### d.get -/
/-! ### o[i] = v -/
def setI (x i y : DV) (S : Sto) : Option Sto := match x with
  | .loc n => (match S[n]? with
    | some (.lst ds) => (match i with
      | .int k => (match ixN ds.length k with
        | some j => some (S.set n (.lst (ds.set j y)))
        | none => none)
      | _ => none)
    | some (.dik ks ds) => (match keyD i with
      | some k => if ks.length < sizeLine then some (S.set n (.dik (putKs ks k) (putVs ks ds k y))) else none
      | none => none)
    | some (.dit ks ds) => (match keyT i with
      | some k => if ks.length < sizeLine then some (S.set n (.dit (putKs ks k) (putVs ks ds k y))) else none
      | none => none)
    | _ => none)
  | _ => none
end
theorem any_zip {κ : Type} [DecidableEq κ] {j : κ} : ∀ {ks : List κ} {xs : List V}, ks.length = xs.length → ((ks.zip xs).any fun kv => decide (kv.1 = j)) = hasK ks j
  | [], _, _ => by rw [List.zip_nil_left] <;> rfl
  | k :: ks, [], h => by cases h
  | k :: ks, x :: xs, h => by
    have ih := any_zip (j := j) (Nat.succ.inj h)
    unfold hasK at ih ⊢
    rw [List.zip_cons_cons, List.any_cons, List.any_cons, ih]
theorem rp_zip {κ : Type} [DecidableEq κ] {j : κ} {v : V} : ∀ {ks : List κ} {xs : List V}, ks.length = xs.length → ks.zip (rpG j v ks xs) = (ks.zip xs).map fun kv => if kv.1 = j then (kv.1, v) else kv
  | [], _, _ => by rw [List.zip_nil_left, List.zip_nil_left] <;> rfl
  | k :: ks, [], h => by cases h
  | k :: ks, x :: xs, h => by
    have ih := rp_zip (j := j) (v := v) (Nat.succ.inj h)
    unfold rpG
    rw [List.zip_cons_cons, List.zip_cons_cons, List.map_cons, ih]
    by_cases q : k = j
    · simp only [if_pos q]
    · simp only [if_neg q]
theorem rp_len {κ α : Type} [DecidableEq κ] {j : κ} {x : α} : ∀ {ks : List κ} {xs : List α}, ks.length = xs.length → (rpG j x ks xs).length = ks.length
  | [], _, _ => rfl
  | k :: ks, [], h => by cases h
  | k :: ks, y :: xs, h => by
    unfold rpG
    rw [List.length_cons, List.length_cons, rp_len (Nat.succ.inj h)]
theorem rp_rel {κ : Type} [DecidableEq κ] {F : Fm} {j : κ} {y : DV} {v : V} (ry : Rel F y v) : ∀ {ks : List κ} {ds : List DV} {xs : List V}, RelL F ds xs → RelL F (rpG j y ks ds) (rpG j v ks xs)
  | [], _, _, _ => rfl
  | k :: ks, [], xs, h => by
    obtain rfl := h.nil
    exact rfl
  | k :: ks, d :: ds, xs, h => by
    obtain ⟨x, xr, rfl, h1, h2⟩ := h
    refine ⟨_, _, rfl, ?_, rp_rel ry h2⟩
    by_cases q : k = j
    · rw [if_pos q, if_pos q]
      exact ry
    · rw [if_neg q, if_neg q]
      exact h1
/-- a dict's values behind a store -/
theorem put_ok {κ : Type} [DecidableEq κ] {F : Fm} {j : κ} {y : DV} {v : V} (ry : Rel F y v) {ks : List κ} {ds : List DV} {xs : List V} (hz : ks.length = ds.length) (rl : RelL F ds xs) :
    ∃ ys, (putKs ks j).length = (putVs ks ds j y).length ∧ RelL F (putVs ks ds j y) ys ∧ putK (ks.zip xs) j v = (putKs ks j).zip ys := by
  have hx : ks.length = xs.length := hz.trans rl.length
  unfold putKs putVs putK
  rw [any_zip hx]
  by_cases q : hasK ks j = true
  · rw [if_pos q, if_pos q, if_pos q]
    exact ⟨rpG j v ks xs, (rp_len hz).symm, rp_rel ry rl, (rp_zip hx).symm⟩
  · rw [if_neg q, if_neg q, if_neg q]
    refine ⟨xs ++ [v], by simp [hz], rl.append (rel1 ry), ?_⟩
    rw [List.zip_append hx] <;> rfl
def rSetD : V → V → V → Hp → (Hp → Prop) → Prop := fun o i v H Q => ∃ a H', o = .ref a ∧ DPut H a i v H' ∧ Q H'
theorem set_dict {X : Cx} (hu : X.A.units + 1 < cLine) : PSet X rSetD := fun pins s σ H o i v ov iv u Q I ro ri rv h => by
  obtain ⟨a, H', rfl, g, q⟩ := h
  obtain rfl : ov = Value.ref a := ro
  exact d_setItem hu I g ri rv fun s' I' => ⟨H', I', q⟩
theorem PSet.or {X : Cx} {t u : TSet} (h : PSet X t) (k : PSet X u) : PSet X (fun o i v H Q => t o i v H Q ∨ u o i v H Q) := fun pins s σ H o i v ov iv w Q I ro ri rv h' => h'.elim (h pins s σ H o i v ov iv w Q I ro ri rv) (k pins s σ H o i v ov iv w Q I ro ri rv)
theorem setI_ok {F : Fm} {S S' : Sto} {H : Hp} {x i y : DV} {vx vi vy : V} {Q : Hp → Prop} (R : Rep F S H) (rx : Rel F x vx) (ri : Rel F i vi) (ry : Rel F y vy) (h : setI x i y S = some S') (hq : ∀ H', Rep F S' H' → Q H') : rSetL vx vi vy H Q ∨ rSetD vx vi vy H Q := by
  unfold setI at h
  split at h
  · rename_i n
    obtain ⟨a, ha, rfl⟩ := rx
    split at h
    · rename_i ds hc
      split at h
      · rename_i k
        split at h
        · rename_i j hj
          cases h
          obtain rfl := (show vi = .int k from ri)
          obtain ⟨⟨us, e, ru⟩, _⟩ := R.cell n _ a hc ha
          exact .inl ⟨a, us, k, j, rfl, rfl, e, by rw [← ru.length]; exact hj, hq _ (R.write hc rfl ha (fun _ q => nomatch q) rfl ⟨us.set j vy, upd_same, ru.set ry j⟩)⟩
        · cases h
      · cases h
    · rename_i ks ds hc
      split at h
      · rename_i k hk
        obtain ⟨h1, h⟩ := of_ite h
        cases h
        obtain rfl := keyD_ok ri hk
        obtain ⟨⟨us, hz, e, ru⟩, _⟩ := R.cell n _ a hc ha
        obtain ⟨ys, p1, p2, p3⟩ := put_ok (j := k) ry hz ru
        have hl : (ks.zip us).length < sizeLine := by
          rw [List.length_zip, ← ru.length, hz, Nat.min_self, ← hz]
          exact h1
        refine .inr ⟨a, _, rfl, DPut.k e hl, hq _ ?_⟩
        rw [p3]
        exact R.write hc rfl ha (fun _ q => nomatch q) rfl ⟨ys, p1, upd_same, p2⟩
      · cases h
    · rename_i ks ds hc
      split at h
      · rename_i k hk
        obtain ⟨h1, h⟩ := of_ite h
        cases h
        unfold keyT at hk
        split at hk
        · rename_i es
          obtain ⟨b, ws, rfl, hb, rb⟩ := tup_at R ri
          obtain rfl := keysD_ok rb hk
          obtain ⟨⟨us, hz, e, ru⟩, _⟩ := R.cell n _ a hc ha
          obtain ⟨ys, p1, p2, p3⟩ := put_ok (j := k) ry hz ru
          have hl : (ks.zip us).length < sizeLine := by
            rw [List.length_zip, ← ru.length, hz, Nat.min_self, ← hz]
            exact h1
          refine .inr ⟨a, _, rfl, DPut.t e hb hl, hq _ ?_⟩
          rw [p3]
          exact R.write hc rfl ha (fun _ q => nomatch q) rfl ⟨ys, p1, upd_same, p2⟩
        · cases hk
      · cases h
    · cases h
  · cases h
def dSub (v o i : DE) : DS := fun ρ S => match v ρ S with
  | some (y, S1) => (match o ρ S1 with
    | some (x, S2) => (match i ρ S2 with
      | some (k, S3) => (match setI x k y S3 with
        | some S4 => some (.nx ρ S4)
        | none => none)
      | none => none)
    | none => none)
  | none => none
section
variable {X : Cx} {e a b o : Expr} {f g : DE} {fa : DA} {pos : Pos} {st : Stmt}
theorem sd_sub {v : DE} (h : PS X st (tAsg (rdE X.K v) (L2.gSub (rdE X.K f) (rdE X.K g) (fun o i v H Q => rSetL o i v H Q ∨ rSetD o i v H Q)))) : SD X st (dSub v f g) := .of h fun F S H ρ σ o D hk R rr hf hq => by
  unfold dSub at hf
  split at hf
  · rename_i y S1 h1
    split at hf
    · rename_i x S2 h2
      split at hf
      · rename_i k S3 h3
        split at hf
        · rename_i S4 h4
          cases hf
          exact rdE.go hk R rr h1 fun F1 H1 vy le1 hk1 R1 r1 ry => rdE.go hk1 R1 r1 h2 fun F2 H2 vx le2 hk2 R2 r2 rx => rdE.go hk2 R2 r2 h3 fun F3 H3 vk le3 hk3 R3 r3 rk =>
            setI_ok R3 (rx.le le3) rk (ry.le (le2.trans le3)) h4 fun H' R' => hq F3 H' ((le1.trans le2).trans le3) R' σ r3
        · cases hf
      · cases hf
    · cases hf
  · cases hf
/-- x += e over ints -/
def dAug (i : Nat) (p : P2) (f : DE) : DS := fun ρ S => match ρ[i]? with
  | some (some x) => (match f ρ S with
    | some (y, S1) => (match p x y S1 with
      | some (d, S2) => some (.nx (ρ.set i (some d)) S2)
      | none => none)
    | none => none)
  | _ => none
abbrev pAddI : P2 := pI fun i j => some (i + j)
/-! ### what loops walk -/
def iSeq (f : DE) : DI := fun ρ S => match f ρ S with
  | some (x, S1) => (match x with
    | .tup ds => some (ds, S1)
    | .tupx ds => some (ds, S1)
    | .lst _ ds => some (ds, S1)
    | .str s => some (s.cps.toList.map fun c => .str ⟨#[c]⟩, S1)
    | .loc n => (match S1[n]? with
      | some (.frz (.lst _ ds)) => some (ds, S1)
      | _ => none)
    | _ => none)
  | none => none
theorem walks_list {F : Fm} {a : Addr} {ds : List DV} (h : ∀ F' S H, Wk F F' → Rep F' S H → ∃ xs, SqL F.K H a xs ∧ RelL F' ds xs) : Walks (Itl F.K a) F ds := fun i F' S H w _ R => by
  obtain ⟨xs, hs, rl⟩ := h F' S H w R
  refine ⟨fun e => ⟨xs, hs, by rw [e, rl.length]; exact Nat.le_refl _⟩, fun d hd => ?_⟩
  obtain ⟨x, hx, rx⟩ := rl.get hd
  refine ⟨⟨xs, x, hs, hx⟩, fun y H' yl => ?_⟩
  obtain ⟨rfl, y2⟩ := yl
  have e := (y2 xs hs).symm.trans hx
  cases e
  exact ⟨F', .refl F', R, rx⟩
theorem walks_tup {F : Fm} {a : Addr} {ds : List DV} (h : ∀ F' S H, Wk F F' → Rep F' S H → ∃ xs, SqT F.K H a xs ∧ RelL F' ds xs) : Walks (Itt F.K a) F ds := fun i F' S H w _ R => by
  obtain ⟨xs, hs, rl⟩ := h F' S H w R
  refine ⟨fun e => ⟨xs, hs, by rw [e, rl.length]; exact Nat.le_refl _⟩, fun d hd => ?_⟩
  obtain ⟨x, hx, rx⟩ := rl.get hd
  refine ⟨⟨xs, x, hs, hx⟩, fun y H' yl => ?_⟩
  obtain ⟨rfl, y2⟩ := yl
  have e := (y2 xs hs).symm.trans hx
  cases e
  exact ⟨F', .refl F', R, rx⟩
theorem walks_str {F : Fm} {s : Str} : Walks (Its s) F (s.cps.toList.map fun c => .str ⟨#[c]⟩) := fun i F' S H w _ R => by
  refine ⟨fun e => ?_, fun d hd => ?_⟩
  · have : i = s.cps.size := by simpa using e
    show s.cps.size ≤ i
    omega
  · rw [List.getElem?_map] at hd
    cases e : s.cps.toList[i]? with
    | none =>
      rw [e] at hd
      cases hd
    | some c =>
      rw [e] at hd
      cases hd
      have e2 : s.cps[i]? = some c := by simpa using e
      refine ⟨(Array.getElem?_eq_some_iff.mp e2).1, fun x H' y => ?_⟩
      obtain ⟨rfl, c', h1, rfl⟩ := y
      rw [e2] at h1
      cases h1
      exact ⟨F', .refl F', R, rfl⟩
theorem walks_range {F : Fm} {lo : Int} {n : Nat} : Walks (Itr lo n) F ((List.range n).map fun i => .int (lo + (i : Nat))) := fun i F' S H w _ R => by
  refine ⟨fun e => ?_, fun d hd => ?_⟩
  · have : i = n := by simpa using e
    show n ≤ i
    omega
  · rw [List.getElem?_map] at hd
    cases e : (List.range n)[i]? with
    | none =>
      rw [e] at hd
      cases hd
    | some c =>
      rw [e] at hd
      cases hd
      obtain ⟨h1, h2⟩ := List.getElem?_eq_some_iff.mp e
      rw [List.getElem_range] at h2
      subst h2
      refine ⟨(by simpa using h1 : i < n), fun x H' y => ?_⟩
      obtain ⟨rfl, rfl⟩ := y
      exact ⟨F', .refl F', R, rfl⟩
theorem seq_src {F : Fm} {S : Sto} {H : Hp} {k : LK} {ds : List DV} {v : V} (R : Rep F S H) (rv : Rel F (.lst k ds) v) : ∃ a, v = .ref a ∧ (∃ xs, SqL F.K H a xs) ∧ Walks (Itl F.K a) F ds := by
  obtain ⟨a, xs, rfl, hs, _⟩ := rv.lstSq R
  refine ⟨a, rfl, ⟨xs, hs⟩, walks_list fun F' S' H' w R' => ?_⟩
  obtain ⟨a', xs', e, hs', rl'⟩ := (Rel.wk w _ _ rv).lstSq R'
  cases e
  rw [w.k] at hs'
  exact ⟨xs', hs', rl'⟩
theorem id_seq {tg : Expr} (h : ED X e f) : ID X tg e (iSeq f) :=
  .of (PI.or (pi_list h.pe) (PI.or (pi_tup h.pe) (pi_str h.pe))) fun F S H ρ σ ds S' Q hk R rr hf hq => by
    unfold iSeq at hf
    split at hf
    · rename_i x S1 h1
      split at hf
      · rename_i es
        cases hf
        refine .inr (.inl (rdE.go hk R rr h1 fun F1 H1 v le hk1 R1 r1 rv => ?_))
        obtain ⟨a, xs, rfl, hs, rl⟩ := rv
        rw [← hk1]
        refine ⟨a, rfl, ⟨xs, SqT.of (R1.g _ _ hs)⟩, hq _ F1 H1 le R1 (walks_tup fun F' S' H' w R' => ⟨xs, SqT.of (R'.g _ _ (w.g _ _ hs)), RelL.wk w _ _ rl⟩)⟩
      · rename_i es
        cases hf
        refine .inr (.inl (rdE.go hk R rr h1 fun F1 H1 v le hk1 R1 r1 rv => ?_))
        obtain ⟨a, xs, rfl, hs, rl⟩ := rv
        rw [← hk1]
        refine ⟨a, rfl, ⟨xs, sqT_same R1.g hs.t⟩, hq _ F1 H1 le R1 (walks_tup fun F' S' H' w R' => ⟨xs, sqT_same R'.g (sqT_same w.g hs.t), RelL.wk w _ _ rl⟩)⟩
      · rename_i k es
        cases hf
        refine .inl (rdE.go hk R rr h1 fun F1 H1 v le hk1 R1 r1 rv => ?_)
        obtain ⟨a, rfl, hs, hw⟩ := seq_src R1 rv
        rw [← hk1]
        exact ⟨a, rfl, hs, hq _ F1 H1 le R1 hw⟩
      · rename_i s
        cases hf
        refine .inr (.inr (rdE.go hk R rr h1 fun F1 H1 v le hk1 R1 r1 rv => ?_))
        exact ⟨s, rv, hq _ F1 H1 le R1 walks_str⟩
      · rename_i n
        split at hf
        · rename_i k es hc
          cases hf
          refine .inl (rdE.go hk R rr h1 fun F1 H1 v le hk1 R1 r1 rv => ?_)
          obtain ⟨a, ha, rfl⟩ := rv
          obtain ⟨rl, _⟩ := R1.cell n _ a hc ha
          obtain ⟨a', e, hs, hw⟩ := seq_src R1 (show Rel F1 (.lst k ds) (.ref a) from rl)
          cases e
          rw [← hk1]
          exact ⟨a, rfl, hs, hq _ F1 H1 le R1 hw⟩
        · cases hf
      · cases hf
    · cases hf
def rgD (lo : Int) (n : Nat) : List DV := (List.range n).map fun i => .int (lo + (i : Nat))
def iRange1 (f : DA) : DI := fun ρ S => match f ρ S with
  | some ([.int j], S1) => if j.natAbs < 4611686018427387904 then some (rgD 0 j.toNat, S1) else none
  | _ => none
theorem id_range1 {tg : Expr} {es : List Expr} (ha : AD X es fa) (h : ∀ {t : TA}, PA X es t → PI X tg e (iRng1 t)) : ID X tg e (iRange1 fa) :=
  .of (h ha.pa) fun F S H ρ σ ds S' Q hk R rr hf hq => by
    unfold iRange1 at hf
    split at hf
    · rename_i j S1 h1
      obtain ⟨hb, hf⟩ := of_ite hf
      cases hf
      refine rdA.go hk R rr h1 fun F1 H1 vs le hk1 R1 r1 rl => ?_
      obtain ⟨v, rfl, rv⟩ := one rl
      obtain rfl := (show v = .int j from rv)
      exact ⟨j, rfl, by omega, by omega, hq _ F1 H1 le R1 walks_range⟩
    · cases hf
def enD : Nat → List DV → List DV
  | _, [] => []
  | i, d :: ds => .tup [.int (i : Nat), d] :: enD (i + 1) ds
theorem enD_get : ∀ {ds : List DV} {k i : Nat}, (enD k ds)[i]? = (ds[i]?).map fun d => .tup [.int ((k + i : Nat) : Int), d]
  | [], k, i => by unfold enD; simp
  | d :: ds, k, 0 => by unfold enD; simp
  | d :: ds, k, i + 1 => by
    unfold enD
    rw [List.getElem?_cons_succ, List.getElem?_cons_succ, enD_get]
    have e : k + 1 + i = k + (i + 1) := by omega
    rw [e]
theorem enD_len : ∀ {ds : List DV} {k : Nat}, (enD k ds).length = ds.length
  | [], k => rfl
  | d :: ds, k => by
    unfold enD
    rw [List.length_cons, List.length_cons, enD_len]
def valL (S : Sto) : DV → Option (List DV)
  | .lst _ ds => some ds
  | .loc n => match S[n]? with
    | some (.frz (.lst _ ds)) => some ds
    | _ => none
  | _ => none
theorem valL_ok {F : Fm} {S : Sto} {H : Hp} {x : DV} {v : V} {ds : List DV} (R : Rep F S H) (r : Rel F x v) (h : valL S x = some ds) : ∃ k, Rel F (.lst k ds) v := by
  unfold valL at h
  split at h
  · rename_i k es
    cases h
    exact ⟨k, r⟩
  · rename_i n
    split at h
    · rename_i k es hc
      cases h
      obtain ⟨a, ha, rfl⟩ := r
      obtain ⟨rl, _⟩ := R.cell n _ a hc ha
      exact ⟨k, rl⟩
    · cases h
  · cases h
def iEnum (f : DA) : DI := fun ρ S => match f ρ S with
  | some ([x], S1) => (match valL S1 x with
    | some ds => some (enD 0 ds, S1)
    | none => none)
  | _ => none
theorem walks_enum {F : Fm} {a : Addr} {ds : List DV} (h : ∀ F' S H, Wk F F' → Rep F' S H → ∃ xs, SqL F.K H a xs ∧ RelL F' ds xs) : Walks (Ite F.K a) F (enD 0 ds) := fun i F' S H w _ R => by
  obtain ⟨xs, hs, rl⟩ := h F' S H w R
  refine ⟨fun e => ⟨xs, hs, by rw [e, enD_len, rl.length]; exact Nat.le_refl _⟩, fun d hd => ?_⟩
  rw [enD_get] at hd
  cases hd0 : ds[i]? with
  | none =>
    rw [hd0] at hd
    cases hd
  | some d0 =>
    rw [hd0] at hd
    cases hd
    obtain ⟨x, hx, rx⟩ := rl.get hd0
    refine ⟨⟨xs, x, hs, hx⟩, fun y H' yl => ?_⟩
    obtain ⟨T, x', rfl, hT, rfl, hy⟩ := yl
    have e := (hy xs hs).symm.trans hx
    cases e
    obtain ⟨R', le⟩ := R.add (o := .tup [.int (i : Nat), x]) hT
    exact ⟨_, le, R', T, _, rfl, upd_same, .cons (by rw [Nat.zero_add]; exact rfl) (.cons (rx.le le) rfl)⟩
end
end Dn

namespace Dn
open PySem PySem.Spec PyProof.Rows L2

/-! ### a def that is ready to be called -/
structure FnC (P : Program) (w : World) (K : PySem.W.Frag) (mg : Str → Option Value) (base : Heap) (x : Str) (k : Nat) (ps : List Str) (dvs : List V) (f : PL) : Prop where
  ex : ∃ (a : Addr) (fd : FuncData) (ds : List Value), mg x = some (.ref a) ∧ FnOk P w K mg base CX0 k a fd ps (spS K ps.length f) ∧ PySem.W.keepIn K (.ref a) = true ∧ Binds K fd ps ds ∧ Vals dvs ds
section
variable {X : Cx} {x : Str} {k j : Nat} {ps : List Str} {dvs : List V} {f : PL} {dds : List DV} {p pos : Pos} {e a b : Expr} {es : List Expr} {fa : DA}
theorem FnC.pe (C : FnC X.prog X.w X.K X.mg X.base x k ps dvs f) (hr : Room j X.A) (hj : k ≤ j) (hg : Gl X x) {t : TA} (ha : PA X (e :: es) t) (hdb : (x == ("__debug__" : Str)) = false := by decide)
    (he : starEach (e :: es) X.env = (false, eval e X.env) :: starEach es X.env := by rfl) (hpl : (backTo pos (starEach es X.env)).any (·.1) = false := by rfl) :
    PE X (.Call (.Name x p) (e :: es) [] pos) (tCall (spS X.K ps.length f) dvs E0 t) := by
  obtain ⟨a, fd, ds, h1, h2, h3, h4, h5⟩ := C.ex
  exact pe_call h2 (hr.mono hj) hg h1 h3 h4 h5 pass0 ha hdb he hpl
theorem ed_callP (C : FnC X.prog X.w X.K X.mg X.base x k ps dvs (runF np n b0)) (hn : ps.length = np) (hr : Room j X.A) (hj : k ≤ j) (hg : Gl X x) (hd : ∀ F : Fm, RelL F dds dvs) (ha : AD X (e :: es) fa) (hdb : (x == ("__debug__" : Str)) = false := by decide)
    (he : starEach (e :: es) X.env = (false, eval e X.env) :: starEach es X.env := by rfl) (hpl : (backTo pos (starEach es X.env)).any (·.1) = false := by rfl) :
    ED X (.Call (.Name x p) (e :: es) [] pos) (dPrim (cP (pureOf (runF np n b0)) dds) fa) := by
  subst hn
  exact ed_call (fun {t} ha => C.pe hr hj hg ha hdb he hpl) (ok_cP hd runF_len) ha
theorem dd0 (F : Fm) : RelL F [] [] := rfl
theorem FnC.of {P : Program} {w : World} {K : PySem.W.Frag} {mg : Str → Option Value} {base : Heap} {a : Addr} {fd : FuncData} {qual : Str} {params : Arguments} {body : List Stmt} {scope : Scope}
    (F : FunD K x qual params body scope [] [] a fd) (hm : mg x = some (.ref a)) (h : FnOk P w K mg base CX0 k a fd ps (spS K ps.length f))
    (hb : ∀ (kV doc pm : Value) (an : Option Addr) (cdv ct : Value) (us : List Value), us.length = ps.length → bindArgs (PySem.W.fnOf x qual params body scope .none kV doc pm an cdv ct) ⟨us, []⟩ = pure (ps.zip us)) : FnC P w K mg base x k ps [] f :=
  ⟨a, fd, [], hm, h, F.kp, F.bindsN hb, .nil⟩

/-! ### names of the module -/
/-! ### built-in calls in short -/
structure TB (mg : Str → Option Value) : Prop where
  len : mg "len" = none
  isinstance : mg "isinstance" = none
  range : mg "range" = none
  enumerate : mg "enumerate" = none
  list : mg "list" = none
  tuple : mg "tuple" = none
  str : mg "str" = none
  int : mg "int" = none
  max : mg "max" = none
  min : mg "min" = none
  sum : mg "sum" = none
  any : mg "any" = none
  all : mg "all" = none
  sorted : mg "sorted" = none
  set : mg "set" = none
  reversed : mg "reversed" = none
  bool : mg "bool" = none
  dict : mg "dict" = none
  zip : mg "zip" = none
  ve : mg "ValueError" = none
theorem tb_of {K : PySem.W.Frag} {h : Heap} {mg : Str → Option Value} (X : K.In h) (G : h.Ns mainGlobals mg) (c : ∀ f ∈ frees, f.ok K = true) : TB mg := by
  have g : ∀ {x : Str}, He.Fa.free x ∈ frees → mg x = none := fun {x} hx => He.free_ok X G (c _ hx)
  have m : ∀ (i : Nat) {x : Str}, frees[i]? = some (He.Fa.free x) → mg x = none := fun i {x} e => g (List.mem_of_getElem? e)
  exact ⟨m 0 rfl, m 1 rfl, m 2 rfl, m 3 rfl, m 4 rfl, m 5 rfl, m 6 rfl, m 7 rfl, m 8 rfl, m 9 rfl, m 10 rfl, m 11 rfl, m 12 rfl, m 13 rfl, m 14 rfl, m 15 rfl, m 16 rfl, m 17 rfl, m 18 rfl, m 19 rfl⟩
section
theorem e_isi {T7 : Ty7} {e1 : Expr} {f : DE} {p1 p2 : Pos} (T : TB X.mg) (hm : X.mg (Str.ofString T7.name) = none) (hT : T7 ≠ .non) (hg : Gl X "isinstance") (hg2 : Gl X (Str.ofString T7.name)) (hb : bootBuiltins (Str.ofString T7.name) = some (.type T7.name))
    (hx : ED X e1 f) (hn : Str.ofString T7.name ≠ "__name__" := by decide) (hd : (Str.ofString T7.name == ("__debug__" : Str)) = false := by decide)
    (h1 : starEach [e1, .Name (Str.ofString T7.name) p2] X.env = (false, eval e1 X.env) :: starEach [.Name (Str.ofString T7.name) p2] X.env := by rfl)
    (hpl : (backTo pos (starEach [.Name (Str.ofString T7.name) p2] X.env)).any (·.1) = false := by rfl) :
    ED X (.Call (.Name "isinstance" p1) [e1, .Name (Str.ofString T7.name) p2] [] pos) (dIsi T7 f) :=
  ed_isi hT hx fun h => pe_callB call_isi hg T.isinstance boot_isinstance (pa_cons h (pa_cons (pe_bltn hg2 hm hb rfl hn hd) pa_nil) h1) (he := h1) (hpl := hpl)
end
end
theorem call_tupAll {X : Cx} : CallR X (.type "tuple") (rTupAll X.K) := call_tuple_of
/-! ### targets in short -/
section
variable {X : Cx} {e : Expr} {es : List Expr}
theorem gds_c {g : DG} {h : DGs} (h1 : GD X e g) (h2 : GDs X es h) (ha : (assignEach (e :: es) X.env).map (·.2) = assign e X.env :: (assignEach es X.env).map (·.2) := by rfl) : GDs X (e :: es) (gsCons g h) := gds_cons (t := rdG X.K g) (u := rdGs X.K h) h1 h2 (pgs_cons h1.pg h2.pg ha)
theorem gd_t {h : DGs} {k n : Nat} {pos : Pos} (hc : X.calm = true) (h2 : GDs X es h) (hn : (assignEach es X.env).length = n := by rfl) (hst : (assignEach es X.env).findIdx? (·.1) = none := by rfl) : GD X (.Tuple es k pos) (gTupD n h) := gd_tup h2 (pg_tup hc h2.pg hn hst)
end
/-! ### the head -/
structure Facts (fa : List He.Fa) (fn : List He.DefD) (ex : PySem.W.Frag → Bool) (K : PySem.W.Frag) (mg : Str → Option Value) : Prop where
  h : ∃ h : Heap, K.In h ∧ h.Ns mainGlobals mg
  c : He.SaysD fa fn K
  e : ex K = true
section
variable {fa : List He.Fa} {fn : List He.DefD} {ex : PySem.W.Frag → Bool} {K : PySem.W.Frag} {mg : Str → Option Value}
theorem Facts.glo (Y : Facts fa fn ex K mg) (i : Nat) {x : Str} (h : fa[i]? = some (.glo x) := by rfl) : mg x = some (.ref (He.ga K x)) := by
  obtain ⟨hp, X, G⟩ := Y.h
  exact He.glo_ok X G (Y.c.fact i h)
theorem Facts.int (Y : Facts fa fn ex K mg) (i : Nat) {x : Str} {k : Int} (h : fa[i]? = some (.int x k) := by rfl) : ∃ t, mg x = some (.int k t) := by
  obtain ⟨hp, X, G⟩ := Y.h
  exact He.int_ok X G (Y.c.fact i h)
theorem Facts.str (Y : Facts fa fn ex K mg) (i : Nat) {x k : Str} (h : fa[i]? = some (.str x k) := by rfl) : ∃ t, mg x = some (.str k t) := by
  obtain ⟨hp, X, G⟩ := Y.h
  exact He.str_ok X G (Y.c.fact i h)
theorem Facts.tb0 (Y : Facts fa fn ex K mg) (hl : ∃ l, fa = l ++ frees) : TB mg := by
  obtain ⟨hp, X, G⟩ := Y.h
  obtain ⟨l, rfl⟩ := hl
  refine tb_of X G fun f hf => ?_
  obtain ⟨i, hi⟩ := List.mem_iff_getElem?.mp (List.mem_append_right l hf)
  exact Y.c.fact i hi
end
/-- the law's promise off its mathematics -/
theorem spS_law {K : PySem.W.Frag} {f : PL} {H : Hp} {a : Addr} {ns : List Int} {E : XK} (hS : SqL K H a (ns.map V.int)) (h : ∃ S', f [.lst .ext (ns.map DV.int)] [] = some (.bl true, S')) : spS K 1 f [.ref a] H (fun v _ => v = .bl true) E := by
  obtain ⟨S', h⟩ := h
  refine ⟨⟨K, H, fun _ => none, fun _ => none, []⟩, [], [.lst .ext (ns.map DV.int)], .bl true, S', rfl, ⟨Same.refl _, (fun _ _ q => nomatch q), (fun _ _ q => nomatch q), fun _ _ e => e, rfl, fun n c a h _ => by simp at h, fun n m c c' a h => by simp at h⟩, rel1 ⟨a, _, rfl, hS, ints_rel _⟩, rfl, h, fun F' H' v le R' rv => rv⟩
end Dn

namespace Dn
open PySem PySem.Spec PyProof.Rows L2

/-! ### the laws' mathematics: evaluating denotations -/
mutual
/-- a value without cells and borrowed parts -/
def plain : DV → Bool
  | .loc _ => false
  | .tup ds => plainL ds
  | .tupx ds => plainL ds
  | .lst k ds => (match k with | .bor => false | _ => true) && plainL ds
  | .dik k _ ds => (match k with | .own => true | _ => false) && plainL ds
  | .dit k _ ds => (match k with | .own => true | _ => false) && plainL ds
  | .exc _ _ _ => false
  | _ => true
def plainL : List DV → Bool
  | [] => true
  | d :: ds => plain d && plainL ds
end
mutual
theorem mapD_plain {b : Bool} {h : Nat → Option DV} : ∀ {d : DV}, plain d = true → mapD b h d = some d
  | .loc _, e => by cases e
  | .non, _ => rfl
  | .bl _, _ => rfl
  | .int _, _ => rfl
  | .str _, _ => rfl
  | .tup ds, e => by
    unfold mapD
    rw [mapDL_plain (d := ds) e]
  | .tupx ds, e => by
    unfold mapD
    rw [mapDL_plain (d := ds) e]
  | .lst k ds, e => by
    unfold plain at e
    obtain ⟨e1, e2⟩ := Bool.and_eq_true_iff.mp e
    unfold mapD
    rw [mapDL_plain e2]
    cases k with
    | bor => cases e1
    | own => rfl
    | ext => rfl
  | .dik k ks ds, e => by
    unfold plain at e
    obtain ⟨e1, e2⟩ := Bool.and_eq_true_iff.mp e
    unfold mapD
    rw [mapDL_plain e2]
    cases k with
    | bor => cases e1
    | own => rfl
    | ext => cases e1
  | .dit k ks ds, e => by
    unfold plain at e
    obtain ⟨e1, e2⟩ := Bool.and_eq_true_iff.mp e
    unfold mapD
    rw [mapDL_plain e2]
    cases k with
    | bor => cases e1
    | own => rfl
    | ext => cases e1
theorem mapDL_plain {b : Bool} {h : Nat → Option DV} : ∀ {d : List DV}, plainL d = true → mapDL b h d = some d
  | [], _ => rfl
  | d :: ds, e => by
    unfold plainL at e
    obtain ⟨e1, e2⟩ := Bool.and_eq_true_iff.mp e
    unfold mapDL
    rw [mapD_plain e1, mapDL_plain e2]
end
theorem cpD_plain {b : Bool} {S : Sto} {d : DV} (h : plain d = true) : cpD b S d = some d := mapD_plain h
theorem cpL_plain {b : Bool} {S : Sto} {d : List DV} (h : plainL d = true) : cpL b S d = some d := mapDL_plain h
section
variable {b : Bool} {x : Str} {i : Int} {ds : List DV} {d : DV}
@[simp] theorem plain_non : plain .non = true := (rfl)
@[simp] theorem plain_bl : plain (.bl b) = true := (rfl)
@[simp] theorem plain_int : plain (.int i) = true := (rfl)
@[simp] theorem plain_str : plain (.str x) = true := (rfl)
@[simp] theorem plain_tup : plain (.tup ds) = plainL ds := (rfl)
@[simp] theorem plain_tupx : plain (.tupx ds) = plainL ds := (rfl)
@[simp] theorem plain_own : plain (.lst .own ds) = plainL ds := by simp [plain]
@[simp] theorem plain_ext : plain (.lst .ext ds) = plainL ds := by simp [plain]
@[simp] theorem plainL_nil : plainL [] = true := (rfl)
@[simp] theorem plainL_cons : plainL (d :: ds) = (plain d && plainL ds) := (rfl)
theorem plainL_iff : ∀ {ds : List DV}, plainL ds = true ↔ ∀ d ∈ ds, plain d = true
  | [] => by simp
  | d :: ds => by simp [plainL_iff (ds := ds)]
@[simp] theorem plainL_app {a b : List DV} : plainL (a ++ b) = (plainL a && plainL b) := by
  induction a with
  | nil => simp
  | cons x r ih => simp [ih, Bool.and_assoc]
@[simp] theorem plainL_ints {ns : List Int} : plainL (ns.map DV.int) = true := plainL_iff.mpr fun d h => by
  obtain ⟨i, _, rfl⟩ := List.mem_map.mp h
  rfl
@[simp] theorem plainL_strs {ns : List Str} : plainL (ns.map DV.str) = true := plainL_iff.mpr fun d h => by
  obtain ⟨i, _, rfl⟩ := List.mem_map.mp h
  rfl
end
/-- a cell's copy -/
theorem cpD_loc {b : Bool} {S : Sto} {n : Nat} {ds : List DV} (h : S[n]? = some (.lst ds)) (hp : plainL ds = true) : cpD b S (.loc n) = some (.lst (bk b) ds) := by
  show cpN b (S.length + 1) S n = _
  unfold cpN
  simp only [h, mapDL_plain hp]
theorem pureOf_of {f : PL} {ds : List DV} {d : DV} {S' : Sto} (h : f ds [] = some (d, S')) (hp : plain d = true) : pureOf f ds = some d := by
  unfold pureOf
  rw [h]
  exact cpD_plain hp
section
variable {f g h : DE} {fa : DA} {s t : DS} {p : P2} {ρ : Ev} {S : Sto} {i : Nat} {d : DV} {pl : PL} {pf : List DV → Option DV} {xs : List DV}
@[simp] theorem v_var : dVar i ρ S = (match ρ[i]? with | some (some d) => some (d, S) | _ => none) := (rfl)
@[simp] theorem v_c : dC d ρ S = some (d, S) := (rfl)
@[simp] theorem v_un {p : P1} : dUn p f ρ S = (match f ρ S with | some (x, S1) => p x S1 | none => none) := (rfl)
@[simp] theorem v_bin : dBin p f g ρ S = (match f ρ S with | some (x, S1) => (match g ρ S1 with | some (y, S2) => p x y S2 | none => none) | none => none) := (rfl)
@[simp] theorem v_and : dAnd f g ρ S = (match f ρ S with | some (.bl true, S1) => g ρ S1 | some (.bl false, S1) => some (.bl false, S1) | _ => none) := (rfl)
@[simp] theorem v_or : dOr f g ρ S = (match f ρ S with | some (.bl true, S1) => some (.bl true, S1) | some (.bl false, S1) => g ρ S1 | _ => none) := (rfl)
@[simp] theorem v_not : dNot f ρ S = (match f ρ S with | some (.bl c, S1) => some (.bl (!c), S1) | _ => none) := (rfl)
@[simp] theorem v_if : dIf h f g ρ S = (match h ρ S with | some (.bl true, S1) => f ρ S1 | some (.bl false, S1) => g ρ S1 | _ => none) := (rfl)
@[simp] theorem v_nil : aNil ρ S = some ([], S) := (rfl)
@[simp] theorem v_cons : aCons f fa ρ S = (match f ρ S with | some (x, S1) => (match fa ρ S1 with | some (xs, S2) => some (x :: xs, S2) | none => none) | none => none) := (rfl)
@[simp] theorem v_prim : dPrim pl fa ρ S = (match fa ρ S with | some (xs, S1) => pl xs S1 | none => none) := (rfl)
@[simp] theorem v_next : dNext ρ S = some (.nx ρ S) := (rfl)
@[simp] theorem v_seq : dSeq s t ρ S = (match s ρ S with | some (.nx ρ' S') => t ρ' S' | o => o) := (rfl)
@[simp] theorem v_break : dBreak ρ S = some (.bk ρ S) := (rfl)
@[simp] theorem v_cont : dCont ρ S = some (.ct ρ S) := (rfl)
@[simp] theorem v_expr : dExpr f ρ S = (match f ρ S with | some (_, S') => some (.nx ρ S') | none => none) := (rfl)
@[simp] theorem v_ret : dRet f ρ S = (match f ρ S with | some (d, S') => some (.rt d S') | none => none) := (rfl)
@[simp] theorem v_retN : dRetN ρ S = some (.rt .non S) := (rfl)
@[simp] theorem v_ifS : dIfS f s t ρ S = (match f ρ S with | some (.bl true, S1) => s ρ S1 | some (.bl false, S1) => t ρ S1 | _ => none) := (rfl)
@[simp] theorem v_gset : gSet i d ρ S = some (ρ.set i (some d), S) := (rfl)
@[simp] theorem v_set : dSet i f ρ S = (match f ρ S with | some (d, S1) => some (.nx (ρ.set i (some d)) S1) | none => none) := (rfl)
@[simp] theorem v_isi {T : Ty7} : dIsi T f ρ S = (match f ρ S with | some (x, S1) => (match tyD S1 x with | some t => some (.bl (isT t T), S1) | none => none) | none => none) := (rfl)
@[simp] theorem v_for {it : DI} {gt : DG} : dFor it gt s ρ S = (match it ρ S with | some (ds, S1) => forL gt s ds ρ S1 | none => none) := (rfl)
@[simp] theorem v_aug : dAug i p f ρ S = (match ρ[i]? with | some (some x) => (match f ρ S with | some (y, S1) => (match p x y S1 with | some (d, S2) => some (.nx (ρ.set i (some d)) S2) | none => none) | none => none) | _ => none) := (rfl)
@[simp] theorem cP_eq : cP pf [] xs S = (match cpL true S xs with | some ys => (match pf ys with | some d => some (d, S) | none => none) | none => none) := by
  unfold cP
  rw [List.append_nil] <;> rfl
@[simp] theorem cM_eq {pm : List DV → Option (List DV)} : cM pm [] xs S = (match cpL true S xs with | some ys => (match pm ys with | some es => some (.loc S.length, S ++ [.lst es]) | none => none) | none => none) := by
  unfold cM
  rw [List.append_nil] <;> rfl
@[simp] theorem v_subI {a b : Int} : pSub (.int a) (.int b) S = some (.int (a - b), S) := (rfl)
@[simp] theorem v_addI {a b : Int} : pAdd (.int a) (.int b) S = some (.int (a + b), S) := (rfl)
@[simp] theorem v_addI2 {a b : Int} : pAddI (.int a) (.int b) S = some (.int (a + b), S) := (rfl)
@[simp] theorem v_andI {a b : Int} : pAnd (.int a) (.int b) S = some (.int (Builtin.bitAnd a b), S) := (rfl)
@[simp] theorem v_orI {a b : Int} : pOr (.int a) (.int b) S = some (.int (Builtin.bitOr a b), S) := (rfl)
@[simp] theorem v_xorI {a b : Int} : pXor (.int a) (.int b) S = some (.int (Builtin.bitXor a b), S) := (rfl)
@[simp] theorem v_neg {a : Int} : pNeg (.int a) S = some (.int (-a), S) := (rfl)
theorem v_modI {a b : Int} (h : 0 < b) : pMod (.int a) (.int b) S = some (.int (a % b), S) := by
  show (match gMod a b with | some k => some (DV.int k, S) | none => none) = _
  unfold gMod
  rw [if_pos h]
theorem v_mulI {a b : Int} (h : -18446744073709551616 < b ∧ b < 18446744073709551616) : pMul (.int a) (.int b) S = some (.int (a * b), S) := by
  show (match gMul a b with | some k => some (DV.int k, S) | none => none) = _
  unfold gMul
  rw [if_pos (.inl (.inr (by omega)))]
theorem v_mulIl {a b : Int} (h : -18446744073709551616 < a ∧ a < 18446744073709551616) : pMul (.int a) (.int b) S = some (.int (a * b), S) := by
  show (match gMul a b with | some k => some (DV.int k, S) | none => none) = _
  unfold gMul
  rw [if_pos (.inl (.inl (by omega)))]
@[simp] theorem v_addL {k l : LK} {xs ys : List DV} (hk : k ≠ .ext := by decide) (hl : l ≠ .ext := by decide) : pAdd (.lst k xs) (.lst l ys) S = (if xs.length + ys.length ≤ sizeLine then some (.lst .own (xs ++ ys), S) else none) := by
  cases k <;> cases l <;> first | rfl | exact absurd rfl hk | exact absurd rfl hl
@[simp] theorem v_addS {a b : Str} : pAdd (.str a) (.str b) S = (if a.length + b.length ≤ sizeLine then some (.str (a ++ b), S) else none) := (rfl)
@[simp] theorem v_addT {xs ys : List DV} : pAdd (.tup xs) (.tup ys) S = (if xs.length + ys.length ≤ sizeLine then some (.tup (xs ++ ys), S) else none) := (rfl)
@[simp] theorem v_pLst {xs : List DV} : pLst xs S = (if xs.length ≤ sizeLine then some (.lst .own xs, S) else none) := (rfl)
@[simp] theorem v_pLstM {xs : List DV} : pLstM xs S = (if xs.length ≤ sizeLine then some (.loc S.length, S ++ [.lst xs]) else none) := (rfl)
@[simp] theorem v_pTup {xs : List DV} : pTup xs S = (if xs.length ≤ sizeLine then some (.tup xs, S) else none) := (rfl)
@[simp] theorem size_eq : sizeLine = 16777216 := (rfl)
@[simp] theorem v_lt {a b : Int} : pLt (.int a) (.int b) S = some (.bl (decide (a < b)), S) := (rfl)
@[simp] theorem v_le {a b : Int} : pLe (.int a) (.int b) S = some (.bl (decide (a ≤ b)), S) := (rfl)
@[simp] theorem v_gt {a b : Int} : pGt (.int a) (.int b) S = some (.bl (decide (b < a)), S) := (rfl)
@[simp] theorem v_ge {a b : Int} : pGe (.int a) (.int b) S = some (.bl (decide (b ≤ a)), S) := (rfl)
@[simp] theorem v_eqI {a b : Int} : pEq false (.int a) (.int b) S = some (.bl (decide (a = b)), S) := (rfl)
@[simp] theorem v_neI {a b : Int} : pEq true (.int a) (.int b) S = some (.bl (!decide (a = b)), S) := (rfl)
@[simp] theorem v_eqS {a b : Str} : pEq false (.str a) (.str b) S = some (.bl (decide (a = b)), S) := (rfl)
@[simp] theorem v_neS {a b : Str} : pEq true (.str a) (.str b) S = some (.bl (!decide (a = b)), S) := (rfl)
@[simp] theorem v_isN : pIs false d .non S = some (.bl (isNon d), S) := (rfl)
@[simp] theorem v_isnN : pIs true d .non S = some (.bl (!isNon d), S) := (rfl)
end
@[simp] theorem isNon_int {i : Int} : isNon (.int i) = false := (rfl)
@[simp] theorem isNon_str {i : Str} : isNon (.str i) = false := (rfl)
@[simp] theorem isNon_non : isNon .non = true := (rfl)
@[simp] theorem isNon_loc {n : Nat} : isNon (.loc n) = false := (rfl)
section
variable {f : DE} {ρ : Ev} {S : Sto}
@[simp] theorem iSeq_eq : iSeq f ρ S = (match f ρ S with | some (x, S1) => (match x with | .tup ds => some (ds, S1) | .tupx ds => some (ds, S1) | .lst _ ds => some (ds, S1) | .str s => some (s.cps.toList.map fun c => .str ⟨#[c]⟩, S1) | .loc n => (match S1[n]? with | some (.frz (.lst _ ds)) => some (ds, S1) | _ => none) | _ => none) | none => none) := (rfl)
end
/-! ### places -/
theorem ixN_nat {n k : Nat} (h : k < n) : ixN n (k : Int) = some k := by
  unfold ixN
  rw [if_pos (by omega), if_pos (by omega), Int.toNat_natCast]
section
variable {S : Sto} {ds : List DV} {i : Int} {d : DV}
theorem ix_seq {k : LK} (h : atD ds i = some d) : pIx (.lst k ds) (.int i) S = some (d, S) := by
  show (match atD ds i with | some d => some (d, S) | none => none) = _
  rw [h]
theorem ix_tup (h : atD ds i = some d) : pIx (.tup ds) (.int i) S = some (d, S) := by
  show (match atD ds i with | some d => some (d, S) | none => none) = _
  rw [h]
theorem ix_str {s : Str} {c : Nat} (hl : s.length ≤ sizeLine) (h : atI s.cps.toList i = some c) : pIx (.str s) (.int i) S = some (.str ⟨#[c]⟩, S) := by
  show (if s.length ≤ sizeLine then (match atI s.cps.toList i with | some c => some (DV.str ⟨#[c]⟩, S) | none => none) else none) = _
  rw [if_pos hl, h]
theorem atD_nat {k : Nat} (h : ds[k]? = some d) : atD ds (k : Int) = some d := by
  unfold atD
  rw [ixN_nat (List.getElem?_eq_some_iff.mp h).1]
  exact h
end

/-! ### comprehensions and loops -/
inductive All2 {α β : Type} (P : α → β → Prop) : List α → List β → Prop where
  | nil : All2 P [] []
  | cons {a b as bs} (h : P a b) (t : All2 P as bs) : All2 P (a :: as) (b :: bs)
theorem lcR_of {it : DI} {g : DG} {c fe : DE} {vs : List Nat} {ρ : Ev} {S S1 S2 : Sto} {ds ys : List DV} (hi : it ρ S = some (ds, S1)) (hl : lcL g c fe (dwipe ρ vs) ds S1 = some (ys, S2)) (hz : ys.length ≤ sizeLine) : lcR it g c fe vs ρ S = some (ys, S2) := by
  unfold lcR
  simp only [hi, hl]
  rw [if_pos hz]
theorem dLc_of {it : DI} {g : DG} {c fe : DE} {vs : List Nat} {ρ : Ev} {S S1 S2 : Sto} {ds ys : List DV} (hi : it ρ S = some (ds, S1)) (hl : lcL g c fe (dwipe ρ vs) ds S1 = some (ys, S2)) (hz : ys.length ≤ sizeLine) : dLc it g c fe vs ρ S = some (.lst .own ys, S2) := by
  unfold dLc
  simp only [lcR_of hi hl hz]
theorem dLcM_of {it : DI} {g : DG} {c fe : DE} {vs : List Nat} {ρ : Ev} {S S1 S2 : Sto} {ds ys : List DV} (hi : it ρ S = some (ds, S1)) (hl : lcL g c fe (dwipe ρ vs) ds S1 = some (ys, S2)) (hz : ys.length ≤ sizeLine) : dLcM it g c fe vs ρ S = some (.loc S2.length, S2 ++ [.lst ys]) := by
  unfold dLcM
  simp only [lcR_of hi hl hz]
theorem size_ok {n : Nat} (h : n ≤ 1000000) : n ≤ sizeLine := Nat.le_trans h (by decide)
end Dn

namespace Dn
open PySem PySem.Spec PyProof.Rows L2
/-! ### texts of single signs -/
abbrev one1 (c : Nat) : Str := ⟨#[c]⟩
def txt (cs : List Nat) : Str := ⟨cs.toArray⟩
theorem joinL_nil : ∀ ls : List (List Nat), TL.joinL [] ls = ls.flatten
  | [] => rfl
  | [a] => by simp [TL.joinL]
  | a :: b :: r => by
    have ih := joinL_nil (b :: r)
    simp only [TL.joinL] at ih ⊢
    simp [ih]
theorem join_ones (cs : List Nat) : Txt.join "" (cs.map one1) = txt cs := by
  apply TL.ext_tl
  rw [TL.join_eq, TL.tl_join]
  show TL.joinL [] _ = cs
  rw [joinL_nil, List.map_map]
  induction cs with
  | nil => rfl
  | cons a r ih =>
    rw [List.map_cons, List.flatten_cons, ih]
    rfl
theorem strsD_map {α : Type} {f : α → Str} : ∀ {l : List α}, strsD (l.map fun a => .str (f a)) = some (l.map f)
  | [] => rfl
  | a :: l => by
    rw [List.map_cons, List.map_cons]
    unfold strsD
    rw [strsD_map]
theorem ones_sum : ∀ cs : List Nat, ((cs.map one1).map (·.length)).sum = cs.length
  | [] => rfl
  | a :: r => by
    rw [List.map_cons, List.map_cons, List.sum_cons, ones_sum r]
    show 1 + _ = _ + 1
    omega
def abc : Str := "abcdefghijklmnopqrstuvwxyz"
theorem abc_at : ∀ k < 26, atI abc.cps.toList (k : Nat) = some (97 + k) := by decide +kernel
theorem abc_ix {S : Sto} {i : Int} (h0 : 0 ≤ i) (h1 : i < 26) : pIx (.str "abcdefghijklmnopqrstuvwxyz") (.int i) S = some (.str (one1 (97 + i.toNat)), S) := by
  have e := abc_at i.toNat (by omega)
  rw [Int.toNat_of_nonneg h0] at e
  exact ix_str (s := abc) (by decide) e
theorem All2.mem {α β : Type} {P : α → β → Prop} : ∀ {as : List α} {bs : List β}, All2 P as bs → ∀ b ∈ bs, ∃ a ∈ as, P a b
  | _, _, .nil, b, h => by cases h
  | _, _, .cons h t, b, hb => by
    rcases List.mem_cons.mp hb with rfl | hb
    · exact ⟨_, List.mem_cons_self, h⟩
    · obtain ⟨a, h1, h2⟩ := All2.mem t b hb
      exact ⟨a, List.mem_cons_of_mem _ h1, h2⟩
theorem All2.len {α β : Type} {P : α → β → Prop} : ∀ {as : List α} {bs : List β}, All2 P as bs → as.length = bs.length
  | _, _, .nil => rfl
  | _, _, .cons h t => by rw [List.length_cons, List.length_cons, t.len]
/-! ### equal data -/
mutual
/-- data that == can look at -/
def good : DV → Bool
  | .non => true
  | .bl _ => true
  | .int _ => true
  | .str s => PyData.strOk s
  | .tup ds => goodL ds
  | .lst _ ds => goodL ds
  | _ => false
def goodL : List DV → Bool
  | [] => true
  | d :: ds => good d && goodL ds
end
mutual
def deep : DV → Nat
  | .tup ds => deepL ds + 1
  | .lst _ ds => deepL ds + 1
  | _ => 0
def deepL : List DV → Nat
  | [] => 0
  | d :: ds => max (deep d) (deepL ds)
end
mutual
theorem toPy_good : ∀ {d : DV}, good d = true → ∃ p, toPy d = some p ∧ p.canLay0 = true ∧ p.depth = deep d
  | .non, _ => ⟨_, rfl, rfl, rfl⟩
  | .bl b, _ => ⟨_, rfl, rfl, rfl⟩
  | .int b, _ => ⟨_, rfl, rfl, rfl⟩
  | .str b, h => ⟨_, rfl, h, rfl⟩
  | .tup ds, h => by
    obtain ⟨p, h1, h2, h3⟩ := toPyL_good (ds := ds) h
    refine ⟨.tuple p, ?_, h2, ?_⟩
    · unfold toPy
      rw [h1]
    · show PyData.depthAll p + 1 = _
      rw [h3] <;> rfl
  | .lst k ds, h => by
    obtain ⟨p, h1, h2, h3⟩ := toPyL_good (ds := ds) h
    refine ⟨.list p, ?_, h2, ?_⟩
    · unfold toPy
      rw [h1]
    · show PyData.depthAll p + 1 = _
      rw [h3] <;> rfl
  | .tupx _, h => by cases h
  | .dik _ _ _, h => by cases h
  | .dit _ _ _, h => by cases h
  | .loc _, h => by cases h
theorem toPyL_good : ∀ {ds : List DV}, goodL ds = true → ∃ p, toPyL ds = some p ∧ PyData.canLayAll0 p = true ∧ PyData.depthAll p = deepL ds
  | [], _ => ⟨[], rfl, rfl, rfl⟩
  | d :: ds, h => by
    obtain ⟨h1, h2⟩ := Bool.and_eq_true_iff.mp (show (good d && goodL ds) = true from h)
    obtain ⟨p, a1, a2, a3⟩ := toPy_good h1
    obtain ⟨q, b1, b2, b3⟩ := toPyL_good h2
    refine ⟨p :: q, ?_, ?_, ?_⟩
    · unfold toPyL
      simp only [a1, b1]
    · show (p.canLay0 && PyData.canLayAll0 q) = true
      rw [a2, b2] <;> rfl
    · show max p.depth (PyData.depthAll q) = max (deep d) (deepL ds)
      rw [a3, b3]
end
/-- what a value or a cell holds: for == -/
theorem eqDeep_same {S : Sto} {x y x' y' : DV} {p : PyData} (hx : cpD true S x = some x') (hy : cpD true S y = some y') (px : toPy x' = some p) (py : toPy y' = some p) (hl : p.canLay0 = true) (hd : p.depth ≤ 64) : eqDeep S x y = some true := by
  have s : SeqAt.shaped p = true := by
    unfold SeqAt.shaped
    rw [hl, decide_eq_true hd] <;> rfl
  unfold eqDeep
  simp only [hx, hy, px, py]
  rw [if_pos ⟨s, s⟩, SeqAt.eqv_refl p hl]
/-! ### lists of texts, each once -/
theorem get_lt {n : Nat} {S : Sto} {c : Cell} (h : S[n]? = some c) : n < S.length := (List.getElem?_eq_some_iff.mp h).1
end Dn

/-! enumerate over a tuple -/
namespace Dn
open PySem PySem.Spec PyProof.Rows L2
set_option maxHeartbeats 1000000 in
theorem meets_enum1 {v : Value} {o : Obj} {H : Heap → Prop} (B : Begins v o H) :
    Meets (Builtin.«enumerate.__new__» ⟨[.type "enumerate", v], []⟩) (fun _ R s => H s.heap ∧
      R (.ok (.ret (.ref (s.heap.push o).objs.size))) { s with heap := (s.heap.push o).push { cls := .type "enumerate", data := .fields #[.none, .bool false, .ref s.heap.objs.size, rawInt 0, .none, .none] } }) :=
  .of_wp fun prog w A R s h => by
    obtain ⟨hp, g, d, tk, os⟩ := s; obtain ⟨h1, h⟩ := h
    have hsub := sub_enumerate
    have q1 : ∀ {A' : Around} {E : Value → Shared → Prop} {Q : Value → Shared → Prop}, Q (.ref hp.objs.size) ⟨hp.push o, g, d, tk, os⟩ → wpAny (model prog w) A' (pyIter v) Q E ⟨hp, g, d, tk, os⟩ :=
      fun q => B.iter prog w _ _ ⟨hp, g, d, tk, os⟩ _ h1 q
    wp_walk using q1
    refine wpAny_stack_any fun st => wpAny_pure ?_
    split
    · rename_i c _ _ _ _ _
      cases (c == Value.type "enumerate")
      · wp_walk using q1
        exact ⟨_, rfl, h⟩
      · wp_walk using q1
        exact ⟨_, rfl, h⟩
    · wp_walk using q1
      exact ⟨_, rfl, h⟩
section
variable {prog : Program} {w : World} {A : Around} {E : Value → Shared → Prop} {s : Shared}
theorem call_enum1 {v : Value} {o : Obj} {H : Heap → Prop} {Q : Value → Shared → Prop} (B : Begins v o H) (h1 : H s.heap)
    (h : ∀ h', IsEnum h' (s.heap.objs.size + 1) s.heap.objs.size 0 .none → h'.get? s.heap.objs.size = some o → h'.objs.size = s.heap.objs.size + 2 →
      (∀ b o, s.heap.get? b = some o → h'.get? b = some o) → Q (.ref (s.heap.objs.size + 1)) { s with heap := h' }) :
    wpAny (model prog w) A (call (.type "enumerate") [v]) Q E s := by
  refine callType_new F.called_enumerate (by decide) (F.typeCall_enumerate_1 _) (F.newCall_enumerate_1 _) (fun obj => F.args_object_init_2 obj _) F.entry_enumerate_new
    (meets_enum1 B) ⟨h1, ?_⟩
  have hz : (s.heap.push o).objs.size = s.heap.objs.size + 1 := Heap.size_push ..
  show _ ∧ _
  rw [hz]
  have he : IsEnum ((s.heap.push o).push { cls := .type "enumerate", data := .fields #[.none, .bool false, .ref s.heap.objs.size, rawInt 0, .none, .none] }) (s.heap.objs.size + 1) s.heap.objs.size 0 .none := by
    have := Heap.get?_push_size (s.heap.push o) (o := { cls := .type "enumerate", data := .fields #[.none, .bool false, .ref s.heap.objs.size, rawInt 0, .none, .none] }) rfl
    rw [hz] at this; exact this
  refine ⟨⟨_, he, rfl⟩, h _ he (Heap.get?_push_of_some _ (Heap.get?_push_size _ B.free)) (by rw [Heap.size_push, hz]) fun b o x => Heap.get?_push_of_some _ (Heap.get?_push_of_some _ x)⟩
end
/-- the tuple at a, each item in a new pair -/
def Itet (K : PySem.W.Frag) (a : Addr) : It :=
  ⟨fun i H => ∃ (xs : List V) (x : V), SqT K H a xs ∧ xs[i]? = some x, fun i H v H' => ∃ T x, v = .ref T ∧ H T = none ∧ H' = upd H T (.tup [.int (i : Nat), x]) ∧ ∀ xs, SqT K H a xs → xs[i]? = some x, fun i H => ∃ xs : List V, SqT K H a xs ∧ xs.length ≤ i⟩
theorem turn_enumT {P : Program} {w : World} {K : PySem.W.Frag} {elts : List Expr} {kk : Nat} {tpos : Pos} (a e it : Addr) :
    Turn P w K (.Tuple elts kk tpos) (Itet K a) [e, it] e (fun i h => (∃ old, IsEnum h e it ((i : Nat) : Int) old) ∧ h.IsTupleIter it a i ∧ e ≠ it) where
  mem := by simp
  obj := fun i h st b hb => by
    obtain ⟨⟨old, he⟩, ⟨o, ho, hc, hd⟩, _⟩ := st
    have e' : b = e ∨ b = it := by simpa using hb
    rcases e' with z | z
    · rw [z]; exact ⟨_, he, fun v q => nomatch q⟩
    · rw [z]; exact ⟨o, ho, fun v q => by rw [hd] at q; cases q⟩
  keep := fun i h h' st k => let ⟨⟨old, he⟩, hi, hne⟩ := st; ⟨⟨old, k e (by simp) _ he⟩, hi.at fun o q => k it (by simp) o q, hne⟩
  item := by
    intro X hP hw hK hc i pins s σ H E I hf st hg
    subst hP hw hK
    obtain ⟨⟨old, he⟩, hit, hne⟩ := st
    obtain ⟨xs, x, hq, hx⟩ := hg
    obtain ⟨its, rv, p, hz⟩ := I.tuple hq
    obtain ⟨u, hu, ru⟩ := rv.get hx
    have hel : e < s.heap.objs.size := Heap.lt_size he
    have hil : it < s.heap.objs.size := by obtain ⟨_, q, _⟩ := hit; exact Heap.lt_size q
    have pt : s.heap.IsTuple a its.toArray := p
    have nai : a ≠ it := fun q => by
      obtain ⟨o1, h1, c1, _⟩ := pt
      obtain ⟨o2, h2, c2, _⟩ := id hit
      rw [q, h2] at h1
      cases h1
      rw [c2] at c1
      exact absurd c1 (by simp)
    have nae : a ≠ e := fun q => by
      obtain ⟨o1, h1, c1, _⟩ := pt
      rw [q, he] at h1
      cases h1
      exact absurd c1 (by simp)
    have hlt : i < its.toArray.size := by
      have := (List.getElem?_eq_some_iff.mp hu).1
      simpa using this
    refine wpAny_pyNext_enum_itemD (Draws.tuple (A := X.A.in1) (I.ok.hd hc) it a nai its.toArray) he ⟨hit, pt⟩ hlt hne (by simp [hne]; exact fun q => nae q.symm) fun x' h' tk hPx ho hst' hT hsz hk => ?_
    have ex' : x' = u := by
      have h2 : its.toArray[i]? = some x' := hPx
      have h3 : its.toArray[i]? = some u := by simpa using hu
      rw [h3] at h2
      exact (Option.some.inj h2).symm
    subst ex'
    refine ⟨_, rfl, wpAny_letOwnedTupleGo_enum (s := { s with heap := h', toks := tk + 1 }) ho fun h'' he' sb => ?_⟩
    have hT2 : h''.get? s.heap.objs.size = some { cls := .type "tuple", data := .seq #[.int i tk, x'] } := (sb.2 _ (Nat.ne_of_gt hel)).trans hT
    have new : ObjOk X.prog X.w (upd H s.heap.objs.size (.tup [.int (i : Nat), x])) h'' s.heap.objs.size (.tup [.int (i : Nat), x]) :=
      ⟨by show 2 ≤ sizeLine; decide, [.int i tk, x'], .cons ⟨_, rfl⟩ (.cons ru .nil), ⟨_, hT2, rfl, _, rfl⟩⟩
    have I1 : Inv X pins σ (upd H s.heap.objs.size (.tup [.int (i : Nat), x])) { s with heap := h'', toks := tk + 1 } :=
      I.turnedNew (ch := [e, it]) (fun b ob hb q => (sb.2 b (fun z => hb (by simp [z]))).trans (hk b ob (fun z => hb (by simp [z])) (fun z => hb (by simp [z])) q)) hf (Nat.le_refl _) new
    refine ⟨.ref s.heap.objs.size, _, I1, rfl, ⟨_, x, rfl, I.hok.fresh (Nat.le_refl _), rfl, fun ys hy => by rw [I.tuple_inj hy hq]; exact hx⟩, ⟨⟨x', ?_⟩, hst'.1.at fun o q => (sb.2 it (Ne.symm hne)).trans q, hne⟩, fun b hb => ?_⟩
    · have e1 : ((i + 1 : Nat) : Int) = (i : Int) + 1 := by omega
      rw [e1]; exact he'
    · have hb' : b < s.heap.objs.size := by
        have e' : b = e ∨ b = it := by simpa using hb
        rcases e' with z | z
        · rw [z]; exact hel
        · rw [z]; exact hil
      rw [upd_ne (Nat.ne_of_lt hb')]
      exact (hf b hb).1
  done := by
    intro X hP hw hK hc i pins s σ H E I hf st hg
    subst hP hw hK
    obtain ⟨⟨old, he⟩, hit, hne⟩ := st
    obtain ⟨xs, hq, hx⟩ := hg
    obtain ⟨its, rv, p, hz⟩ := I.tuple hq
    obtain ⟨f0, f1, f2, f3, f4, f5⟩ := hf it (by simp)
    have hl := rv.length
    have pt : s.heap.IsTuple a its.toArray := p
    have hT : s.TypeIs (.ref e) "enumerate" := ⟨_, he, rfl⟩
    unfold pyNext
    refine wpAny_bind (wpAny_attempt (wpAny_callSpecial?_slot (name := Str.ofString "__next__") hT F.slot_enumerate_next
      (wpAny_call_entry F.slot_enumerate_next hT F.entry_enumerate_next ?_ (F.args_enumerate_next_1 _))))
    show wpAny _ _ (PySem.field (.ref e) 2 >>= _) _ _ _
    refine wpAny_bind (wpAny_field he rfl (x := .ref it) rfl ?_)
    refine wpAny_bind (wpAny_nextOf_tuple_end (I.ok.hd hc) hit pt (by simp; omega) fun h' x he' hx' => ?_)
    obtain ⟨o, ho, hcl⟩ := hx'
    refine wpAny_bind (wpAny_isInstance (T := "StopIteration") (b := true) ⟨o, ho, hcl⟩ isSubtype_stop ?_)
    exact wpAny_pure ⟨rfl, I.turned (t' := s.toks) (fun b o hb q => he' b o hb q) f0 f1 f3 f4 f5⟩
  self := fun A i s Q E st h => let ⟨⟨_, he⟩, _⟩ := st; wpAny_pyIter_enum he h
def iEnT (K : PySem.W.Frag) (ta : TA) : TI := fun σ H R => ta σ H fun vs H1 => ∃ a xs, vs = [.ref a] ∧ SqT K H1 a xs ∧ R (Itet K a) H1
theorem pi_enumT {X : Cx} {e : Expr} {ta : TA} {p pos tpos : Pos} {elts : List Expr} {kk : Nat} (hg : Gl X "enumerate") (hm : X.mg "enumerate" = none) (ha : PA X [e] ta) (hs : starEach [e] X.env = [(false, eval e X.env)] := by rfl) :
    PI X (.Tuple elts kk tpos) (.Call (.Name "enumerate" p) [e] [] pos) (iEnT X.K ta) := by
  refine ⟨fun pins s σ H R I h => ?_⟩
  refine Call_ (ld_blt I hg hm boot_enumerate (PyProof.Rows.callWith_type1 (thn (ha.run pos pins s σ H _ I h) fun us s1 ⟨vs, H1, I1, r1, q1⟩ => ?_) hs rfl))
  obtain ⟨a, xs, ex, hq, q⟩ := q1
  subst ex
  cases r1 with
  | cons r rr =>
    cases rr
    cases r
    obtain ⟨its, rv, p', hz⟩ := I1.tuple hq
    refine call_enum1 (begins_tuple a its.toArray) (show s1.heap.IsTuple a its.toArray from p') fun h' he hit hsz hk => wpAny_pyIter_enum he ?_
    have I2 : Inv X pins σ H1 { s1 with heap := h' } := I1.kept (t' := s1.toks) hk
    refine ⟨s1.heap.objs.size + 1, [s1.heap.objs.size + 1, s1.heap.objs.size], _, _, H1, rfl, I2, turn_enumT a (s1.heap.objs.size + 1) s1.heap.objs.size, ⟨⟨.none, he⟩, ⟨_, hit, rfl, rfl⟩, Nat.succ_ne_self _⟩, fun b hb => ?_, q⟩
    have e' : b = s1.heap.objs.size + 1 ∨ b = s1.heap.objs.size := by simpa using hb
    have hle : s1.heap.objs.size ≤ b := by
      rcases e' with z | z
      · rw [z]; exact Nat.le_add_right _ _
      · rw [z]; exact Nat.le_refl _
    exact I1.fpOk hle (I1.hok.fresh hle)
theorem walks_enumT {F : Fm} {a : Addr} {ds : List DV} (h : ∀ F' S H, Wk F F' → Rep F' S H → ∃ xs, SqT F.K H a xs ∧ RelL F' ds xs) : Walks (Itet F.K a) F (enD 0 ds) := fun i F' S H w _ R => by
  obtain ⟨xs, hs, rl⟩ := h F' S H w R
  refine ⟨fun e => ⟨xs, hs, by rw [e, enD_len, rl.length]; exact Nat.le_refl _⟩, fun d hd => ?_⟩
  rw [enD_get] at hd
  cases hd0 : ds[i]? with
  | none =>
    rw [hd0] at hd
    cases hd
  | some d0 =>
    rw [hd0] at hd
    cases hd
    obtain ⟨x, hx, rx⟩ := rl.get hd0
    refine ⟨⟨xs, x, hs, hx⟩, fun y H' yl => ?_⟩
    obtain ⟨T, x', rfl, hT, rfl, hy⟩ := yl
    have e := (hy xs hs).symm.trans hx
    cases e
    obtain ⟨R', le⟩ := R.add (o := .tup [.int (i : Nat), x]) hT
    exact ⟨_, le, R', T, _, rfl, upd_same, .cons (by rw [Nat.zero_add]; exact rfl) (.cons (rx.le le) rfl)⟩
def iEnum2 (f : DA) : DI := fun ρ S => match f ρ S with
  | some ([.tup ds], S1) => some (enD 0 ds, S1)
  | some ([x], S1) => (match valL S1 x with
    | some ds => some (enD 0 ds, S1)
    | none => none)
  | _ => none
section
variable {X : Cx} {e : Expr} {fa : DA}
theorem id_enum2 {tg : Expr} {es : List Expr} (ha : AD X es fa) (h : ∀ {t : TA}, PA X es t → PI X tg e (L2.iEnum X.K t)) (h2 : ∀ {t : TA}, PA X es t → PI X tg e (iEnT X.K t)) : ID X tg e (iEnum2 fa) :=
  .of (PI.or (h ha.pa) (h2 ha.pa)) fun F S H ρ σ ds S' Q hk R rr hf hq => by
    unfold iEnum2 at hf
    split at hf
    · rename_i es S1 h1
      cases hf
      refine .inr (rdA.go hk R rr h1 fun F1 H1 vs le hk1 R1 r1 rl => ?_)
      obtain ⟨v, rfl, rv⟩ := one rl
      obtain ⟨a, xs, rfl, hs, rl⟩ := rv
      rw [← hk1]
      exact ⟨a, xs, rfl, SqT.of (R1.g _ _ hs), hq _ F1 H1 le R1 (walks_enumT fun F' S' H' w R' => ⟨xs, SqT.of (R'.g _ _ (w.g _ _ hs)), RelL.wk w _ _ rl⟩)⟩
    · rename_i x S1 h1
      split at hf
      · rename_i es hv
        cases hf
        refine .inl (rdA.go hk R rr h1 fun F1 H1 vs le hk1 R1 r1 rl => ?_)
        obtain ⟨v, rfl, rv⟩ := one rl
        obtain ⟨k, rv⟩ := valL_ok R1 rv hv
        obtain ⟨a, xs, rfl, hs, _⟩ := rv.lstSq R1
        rw [← hk1]
        refine ⟨a, xs, rfl, hs, hq _ F1 H1 le R1 (walks_enum fun F' S' H' w R' => ?_)⟩
        obtain ⟨a', xs', e, hs', rl'⟩ := (Rel.wk w _ _ rv).lstSq R'
        cases e
        rw [w.k] at hs'
        exact ⟨xs', hs', rl'⟩
      · cases hf
    · cases hf
end

/-! ### written texts are alike just where they are written alike -/
theorem charNat_inj {x y : Char} (h : x.toNat = y.toNat) : x = y := by
  apply Char.ext
  exact UInt32.toNat_inj.mp h
theorem mapNat_inj : ∀ {l m : List Char}, l.map Char.toNat = m.map Char.toNat → l = m
  | [], [], _ => rfl
  | [], _ :: _, h => by cases h
  | _ :: _, [], h => by cases h
  | x :: l, y :: m, h => by
    rw [List.map_cons, List.map_cons] at h
    injection h with h1 h2
    rw [charNat_inj h1, mapNat_inj h2]
@[simp] theorem ofString_inj {a b : String} : (Str.ofString a = Str.ofString b) = (a = b) := by
  apply propext
  constructor
  · intro h
    rw [Str.ofString_eq_toList, Str.ofString_eq_toList] at h
    have h2 : a.toList.map Char.toNat = b.toList.map Char.toNat := by
      have := congrArg (fun s : Str => s.cps.toList) h
      simpa using this
    exact String.toList_inj.mp (mapNat_inj h2)
  · intro h
    rw [h]
end Dn

namespace Dn
open PySem PySem.Spec PyProof.Rows L2
section
variable {f g : DE} {lo hi : DO} {ρ : Ev} {S : Sto} {p : DV → Option Int → Option Int → Sto → Option (DV × Sto)} {fa : DA} {pm : PM}
@[simp] theorem v_sl : dSl p f lo hi ρ S = (match f ρ S with | some (x, S1) => (match lo ρ S1 with | some (l, S2) => (match hi ρ S2 with | some (u, S3) => p x l u S3 | none => none) | none => none) | none => none) := (rfl)
@[simp] theorem dwipe_nil : dwipe ρ [] = ρ := (rfl)
@[simp] theorem dwipe_cons {v : Nat} {vs : List Nat} : dwipe ρ (v :: vs) = (dwipe ρ vs).set v none := (rfl)
@[simp] theorem v_oN : oNone ρ S = some (none, S) := (rfl)
@[simp] theorem v_oS : oSome f ρ S = (match f ρ S with | some (.int i, S1) => some (some i, S1) | _ => none) := (rfl)
@[simp] theorem v_slS {s : Str} {l u : Option Int} : pSl (.str s) l u S = (if s.length ≤ sizeLine then some (.str (cutS s l u), S) else none) := (rfl)
@[simp] theorem v_slL {k : LK} {xs : List DV} {l u : Option Int} : pSl (.lst k xs) l u S = some (.lst .own (cutD xs l u), S) := (rfl)
@[simp] theorem v_slT {xs : List DV} {l u : Option Int} : pSl (.tup xs) l u S = some (.tup (cutD xs l u), S) := (rfl)
@[simp] theorem v_mt : dMt pm f fa ρ S = (match f ρ S with | some (x, S1) => (match asL S1 x with | some _ => (match fa ρ S1 with | some (xs, S2) => pm x xs S2 | none => none) | none => none) | none => none) := (rfl)
theorem app_loc {n : Nat} {y : DV} {xs : List DV} (h : S[n]? = some (.lst xs)) (hz : xs.length < 16777216) : pAppend (.loc n) [y] S = some (.non, S.set n (.lst (xs ++ [y]))) := by
  unfold pAppend
  simp only [h]
  exact if_pos hz
theorem asL_loc {n : Nat} {xs : List DV} (h : S[n]? = some (.lst xs)) : asL S (.loc n) = some xs := by
  unfold asL
  simp only [h]
@[simp] theorem asL_lst {k : LK} {xs : List DV} : asL S (.lst k xs) = some xs := (rfl)
@[simp] theorem v_lenL {k : LK} {xs : List DV} : pLen [.lst k xs] S = some (.int xs.length, S) := (rfl)
@[simp] theorem v_lenT {xs : List DV} : pLen [.tup xs] S = some (.int xs.length, S) := (rfl)
@[simp] theorem v_lenS {x : Str} : pLen [.str x] S = (if x.length ≤ sizeLine then some (.int x.length, S) else none) := (rfl)
@[simp] theorem v_tupL {k : LK} {xs : List DV} : pTuple [.lst k xs] S = some (.tup xs, S) := (rfl)
@[simp] theorem v_tupT {xs : List DV} : pTuple [.tup xs] S = some (.tup xs, S) := (rfl)
@[simp] theorem v_listT {xs : List DV} : pList [.tup xs] S = some (.lst .own xs, S) := (rfl)
@[simp] theorem v_listL {k : LK} {xs : List DV} : pList [.lst k xs] S = some (.lst .own xs, S) := (rfl)
@[simp] theorem v_intB {b : Bool} : pInt [.bl b] S = some (.int (if b then 1 else 0), S) := (rfl)
@[simp] theorem v_intI {b : Int} : pInt [.int b] S = some (.int b, S) := (rfl)
@[simp] theorem v_chain {p q : P2} {f g h : DE} : dChain p q f g h ρ S = (match f ρ S with
  | some (x, S1) => (match g ρ S1 with
    | some (y, S2) => (match p x y S2 with
      | some (.bl true, S3) => (match h ρ S3 with
        | some (z, S4) => q y z S4
        | none => none)
      | some (.bl false, S3) => some (.bl false, S3)
      | _ => none)
    | none => none)
  | none => none) := (rfl)
@[simp] theorem v_addM {k l : LK} {xs ys : List DV} (hk : k ≠ .ext := by decide) (hl : l ≠ .ext := by decide) : pAddM (.lst k xs) (.lst l ys) S = (if xs.length + ys.length ≤ sizeLine then some (.loc S.length, S ++ [.lst (xs ++ ys)]) else none) := by
  cases k <;> cases l <;> first | rfl | exact absurd rfl hk | exact absurd rfl hl
@[simp] theorem ty_int {i : Int} : tyD S (.int i) = some .int := (rfl)
@[simp] theorem ty_str {i : Str} : tyD S (.str i) = some .str := (rfl)
@[simp] theorem ty_bl {i : Bool} : tyD S (.bl i) = some .bool := (rfl)
@[simp] theorem ty_non : tyD S .non = some .non := (rfl)
@[simp] theorem ty_tup {i : List DV} : tyD S (.tup i) = some .tuple := (rfl)
@[simp] theorem ty_own {i : List DV} : tyD S (.lst .own i) = some .list := (rfl)
@[simp] theorem ty_bor {i : List DV} : tyD S (.lst .bor i) = some .list := (rfl)
end
theorem All2.get {α β : Type} {P : α → β → Prop} : ∀ {as : List α} {bs : List β} {i : Nat} {a : α}, All2 P as bs → as[i]? = some a → ∃ b, bs[i]? = some b ∧ P a b
  | _, _, i, a, .nil, h => by simp at h
  | _, _, 0, a, .cons p t, h => by
    cases h
    exact ⟨_, rfl, p⟩
  | _, _, i + 1, a, .cons p t, h => by
    rw [List.getElem?_cons_succ] at h
    obtain ⟨b, h1, h2⟩ := t.get h
    exact ⟨b, by rw [List.getElem?_cons_succ]; exact h1, h2⟩
end Dn

/-! objects -/
namespace Dn
open PySem PySem.Spec PyProof.Rows L2
/-- what is known of the classes -/
def ATOk (K : PySem.W.Frag) (T : ATab) : Prop := ∀ C f, T.contains (C, f) = true → Cls K (He.ga K C) ∧ NoAttr K (He.ga K C) f
section
variable {X : Cx} {e o : Expr} {g : DE} {T : ATab} {f : Str} {pos : Pos}
end

/-! ### methods, makers -/
structure MtC (P : Program) (w : World) (K : PySem.W.Frag) (mg : Str → Option Value) (base : Heap) (C m : Str) (k : Nat) (ps : List Str) (dvs : List V) (f : PL) : Prop where
  ex : ∃ (a : Addr) (fd : FuncData) (ds : List Value), Cls K (He.ga K C) ∧ Meth K (He.ga K C) m a ∧ FnOk P w K mg base CX0 k a fd ps (spS K ps.length f) ∧ Binds K fd ps ds ∧ Vals dvs ds
structure MkC (P : Program) (w : World) (K : PySem.W.Frag) (mg : Str → Option Value) (base : Heap) (C : Str) (k : Nat) (ps : List Str) (dvs : List V) (f : PL) : Prop where
  ex : ∃ (a : Addr) (fd : FuncData) (ds : List Value), mg C = some (.ref (He.ga K C)) ∧ Mk K (He.ga K C) a ∧ FnOk P w K mg base CX0 k a fd ps (spS K ps.length f) ∧ Binds K fd ps ds ∧ Vals dvs ds
section
variable {X : Cx} {e o : Expr} {es : List Expr} {g : DE} {fa : DA} {C m x : Str} {k j : Nat} {ps : List Str} {dvs : List V} {dds : List DV} {np n : Nat} {b0 : DS} {p pos apos : Pos}
end
theorem MtC.of {P : Program} {w : World} {K : PySem.W.Frag} {mg : Str → Option Value} {base : Heap} {C m x : Str} {k : Nat} {ps : List Str} {f : PL} {a : Addr} {fd : FuncData} {qual : Str} {params : Arguments} {body : List Stmt} {scope : Scope}
    (F : FunD K x qual params body scope [] [] a fd) (hc : (He.Fa.cls C).ok K = true) (hm : (He.Fa.meth C m).ok K = true) (ha : a = He.ma K (He.ga K C) m) (h : FnOk P w K mg base CX0 k a fd ps (spS K ps.length f))
    (hb : ∀ (kV doc pm : Value) (an : Option Addr) (cdv ct : Value) (us : List Value), us.length = ps.length → bindArgs (PySem.W.fnOf x qual params body scope .none kV doc pm an cdv ct) ⟨us, []⟩ = pure (ps.zip us)) : MtC P w K mg base C m k ps [] f := by
  subst ha
  exact ⟨_, fd, [], He.cls_ok hc, He.meth_ok hm, h, F.bindsN hb, .nil⟩
theorem MkC.of {P : Program} {w : World} {K : PySem.W.Frag} {mg : Str → Option Value} {base : Heap} {C x : Str} {k : Nat} {ps : List Str} {f : PL} {a : Addr} {fd : FuncData} {qual : Str} {params : Arguments} {body : List Stmt} {scope : Scope}
    (F : FunD K x qual params body scope [] [] a fd) (hg : mg C = some (.ref (He.ga K C))) (hm : (He.Fa.mkr C).ok K = true) (ha : a = He.ma K (He.ga K C) "__init__") (h : FnOk P w K mg base CX0 k a fd ps (spS K ps.length f))
    (hb : ∀ (kV doc pm : Value) (an : Option Addr) (cdv ct : Value) (us : List Value), us.length = ps.length → bindArgs (PySem.W.fnOf x qual params body scope .none kV doc pm an cdv ct) ⟨us, []⟩ = pure (ps.zip us)) : MkC P w K mg base C k ps [] f := by
  subst ha
  exact ⟨_, fd, [], hg, He.mkr_ok hm, h, F.bindsN hb, .nil⟩
theorem atOk_of {K : PySem.W.Frag} {T : ATab} (h : atB K T = true) : ATOk K T := fun C f hc => by
  have h1 := List.all_eq_true.mp h (C, f) (List.contains_iff_mem.mp hc)
  obtain ⟨a, b⟩ := Bool.and_eq_true_iff.mp h1
  exact ⟨He.cls_ok a, He.noat_ok b⟩
end Dn

/-! loops and comprehensions over a list that may be changed elsewhere: read place by place -/
namespace Dn
open PySem PySem.Spec PyProof.Rows L2
section
variable {X : Cx} {e : Expr} {st : Stmt} {f : DE} {g : DG} {c fe : DE} {vs : List Nat} {t : TG} {tt : TT}
end
end Dn

namespace Dn
open PySem PySem.Spec PyProof.Rows L2
section
variable {X : Cx} {o value a b e : Expr} {f : Str} {pos pos' tpos : Pos} {T : ATab} {g gv : DE}
/-! ### o.f op= v -/
/-! ### is, is not of truths -/
def pIsB (neg : Bool) : P2 := fun x y S => match x, y with
  | .bl a, .bl b => some (.bl (if neg then !decide (a = b) else decide (a = b)), S)
  | _, _ => none
theorem ok_isB {K : PySem.W.Frag} : Ok2 K (pIsB false) rIsB := fun F S H x y vx vy d S' Q hk R rx ry hp hq => by
  unfold pIsB at hp
  split at hp
  · cases hp
    exact ⟨_, _, rx, ry, hq F H _ (.refl F) R rfl⟩
  · cases hp
theorem ok_notB {K : PySem.W.Frag} : Ok2 K (pIsB true) rNotB := fun F S H x y vx vy d S' Q hk R rx ry hp hq => by
  unfold pIsB at hp
  split at hp
  · cases hp
    exact ⟨_, _, rx, ry, hq F H _ (.refl F) R rfl⟩
  · cases hp
variable {f1 f2 : DE}
theorem ed_isB (ha : ED X a f1) (hb : ED X b f2) : ED X (.Compare a [.Is] [b] pos) (dBin (pIsB false) f1 f2) := ed_cmp op_isBl ok_isB ha hb (nomark _)
theorem td_isnotB (ha : ED X a f1) (hb : ED X b f2) : TD X (.Compare a [.IsNot] [b] pos) (dBin (pIsB true) f1 f2) := td_cmp op_notBl ok_notB ha hb (nomark _)
@[simp] theorem v_isB {a b : Bool} {S : Sto} : pIsB false (.bl a) (.bl b) S = some (.bl (decide (a = b)), S) := (rfl)
@[simp] theorem v_isnotB {a b : Bool} {S : Sto} : pIsB true (.bl a) (.bl b) S = some (.bl (!decide (a = b)), S) := (rfl)
/-! ### {k: v, ..} -/
end
end Dn

namespace Dn
open PySem PySem.Spec PyProof.Rows L2
/-! ### objects' fields, evaluated -/
section
variable {T : ATab} {f C m : Str} {g o v e : DE} {fa : DA} {ρ : Ev} {S S0 S1 S2 : Sto} {n : Nat} {fs fs' : List (Str × DV)} {d x y : DV} {F : PL} {xs : List DV} {p : P2}
end
section
variable {S S0 S1 S2 S3 : Sto} {n : Nat} {ks : List Key} {vs ds : List DV} {x : Str} {y d : DV} {i : Int} {j : Nat} {ρ : Ev} {f g h v o : DE}
theorem setI_lst (hS : S[n]? = some (.lst ds)) (hi : ixN ds.length i = some j) : setI (.loc n) (.int i) y S = some (S.set n (.lst (ds.set j y))) := by
  unfold setI
  simp only [hS, hi]
end
/-! ### dicts in plain Lean -/
def lkG {κ α : Type} [DecidableEq κ] : List κ → List α → κ → Option α
  | k :: ks, d :: ds, j => if k = j then some d else lkG ks ds j
  | _, _, _ => none
def putG {κ α : Type} [DecidableEq κ] (ks : List κ) (ds : List α) (j : κ) (x : α) : List α := if hasK ks j = true then rpG j x ks ds else ds ++ [x]
section
variable {κ α : Type} [DecidableEq κ] {f : α → DV} {j : κ} {v : α}
theorem lkD_map : ∀ {ks : List κ} {vs : List α}, lkD ks (vs.map f) j = (lkG ks vs j).map f
  | [], vs => by
    unfold lkD lkG
    rfl
  | k :: ks, [] => by
    unfold lkG
    rfl
  | k :: ks, v :: vs => by
    rw [List.map_cons]
    unfold lkD lkG
    by_cases q : k = j
    · rw [if_pos q, if_pos q] <;> rfl
    · rw [if_neg q, if_neg q]
      exact lkD_map
theorem rpG_mem {P : α → Prop} (hv : P v) : ∀ {ks : List κ} {vs : List α}, (∀ u ∈ vs, P u) → ∀ u ∈ rpG j v ks vs, P u
  | [], vs, h, u, hu => by
    unfold rpG at hu
    cases hu
  | k :: ks, [], h, u, hu => by
    cases hu
  | k :: ks, w :: vs, h, u, hu => by
    unfold rpG at hu
    rcases List.mem_cons.mp hu with e | e
    · by_cases q : k = j
      · rw [if_pos q] at e
        rw [e]
        exact hv
      · rw [if_neg q] at e
        rw [e]
        exact h w List.mem_cons_self
    · exact rpG_mem hv (fun u hu => h u (List.mem_cons_of_mem _ hu)) u e
theorem putG_mem {P : α → Prop} (hv : P v) {ks : List κ} {vs : List α} (h : ∀ u ∈ vs, P u) : ∀ u ∈ putG ks vs j v, P u := by
  unfold putG
  by_cases q : hasK ks j = true
  · rw [if_pos q]
    exact rpG_mem hv h
  · rw [if_neg q]
    intro u hu
    rcases List.mem_append.mp hu with e | e
    · exact h u e
    · rw [List.mem_singleton.mp e]
      exact hv
theorem putG_len {ks : List κ} {vs : List α} (h : ks.length = vs.length) : (putKs ks j).length = (putG ks vs j v).length := by
  unfold putKs putG
  by_cases q : hasK ks j = true
  · rw [if_pos q, if_pos q, rp_len h]
  · rw [if_neg q, if_neg q, List.length_append, List.length_append, h] <;> rfl
theorem putKs_len {ks : List κ} : (putKs ks j).length ≤ ks.length + 1 := by
  unfold putKs
  by_cases q : hasK ks j = true
  · rw [if_pos q]
    omega
  · rw [if_neg q, List.length_append] <;> simp
theorem putKs_has {ks : List κ} (h : hasK ks j = true) : putKs ks j = ks := by
  unfold putKs
  rw [if_pos h]
theorem putG_has {ks : List κ} {vs : List α} (h : hasK ks j = true) : putG ks vs j v = rpG j v ks vs := by
  unfold putG
  rw [if_pos h]
theorem lkG_mem : ∀ {ks : List κ} {vs : List α} {v : α}, lkG ks vs j = some v → v ∈ vs
  | [], vs, v, h => by
    unfold lkG at h
    cases h
  | k :: ks, [], v, h => by
    unfold lkG at h
    cases h
  | k :: ks, u :: vs, v, h => by
    unfold lkG at h
    by_cases q : k = j
    · rw [if_pos q] at h
      cases h
      exact List.mem_cons_self
    · rw [if_neg q] at h
      exact List.mem_cons_of_mem _ (lkG_mem h)
theorem lkG_has : ∀ {ks : List κ} {vs : List α}, ks.length = vs.length → hasK ks j = true → ∃ v, lkG ks vs j = some v
  | [], vs, _, h => by cases h
  | k :: ks, [], h, _ => by cases h
  | k :: ks, u :: vs, hl, h => by
    unfold lkG
    by_cases q : k = j
    · rw [if_pos q]
      exact ⟨_, rfl⟩
    · rw [if_neg q]
      refine lkG_has (Nat.succ.inj hl) ?_
      unfold hasK at h ⊢
      rw [List.any_cons, decide_eq_false q, Bool.false_or] at h
      exact h
end
/-! ### the plain machine in plain Lean -/
abbrev W40 : Int := 1099511627776
def In40 (z : Int) : Prop := 0 ≤ z ∧ z < 1099511627776
inductive Atm where
  | n (i : Int) | x (s : Str)
def Atm.d : Atm → DV
  | .n i => .int i
  | .x s => .str s
def Atm.Ok : Atm → Prop
  | .n i => In40 i
  | .x _ => True
@[simp] theorem Atm.plain_d {a : Atm} : plain a.d = true := by cases a <;> rfl
inductive PRow where
  | say (a : Atm) | copy (x : Str) (a : Atm) | op (x s : Str) (a b : Atm) | load (x c : Str) | store (c : Str) (a : Atm)
  | take (x s : Str) (a : Atm) | lay (s : Str) (a b : Atm) | hear (x : Str) | ifr (a : Atm) (n : Nat) | go (n : Nat) | endr (a : Atm)
def PRow.d : PRow → DV
  | .say a => .tup [.str "say", a.d]
  | .copy x a => .tup [.str "copy", .str x, a.d]
  | .op x s a b => .tup [.str "op", .str x, .str s, a.d, b.d]
  | .load x c => .tup [.str "load", .str x, .str c]
  | .store c a => .tup [.str "store", .str c, a.d]
  | .take x s a => .tup [.str "take", .str x, .str s, a.d]
  | .lay s a b => .tup [.str "lay", .str s, a.d, b.d]
  | .hear x => .tup [.str "hear", .str x]
  | .ifr a n => .tup [.str "if", a.d, .int n]
  | .go n => .tup [.str "go", .int n]
  | .endr a => .tup [.str "end", a.d]
theorem PRow.plain_d {r : PRow} : plain r.d = true := by cases r <;> simp [PRow.d]
def PRow.led (i : Nat) : PRow → List Nat
  | .endr _ => []
  | .go n => [n]
  | .ifr _ n => [n, i + 1]
  | _ => [i + 1]
def ledD (i : Nat) (r : PRow) : DV := .tup ((r.led i).map fun (n : Nat) => .int n)
def leadsD (rows : List PRow) : List DV := rows.mapIdx ledD
def isSign (s : Str) : Prop := s = "+" ∨ s = "-" ∨ s = "*" ∨ s = "<" ∨ s = "=" ∨ s = "&" ∨ s = "|" ∨ s = "^"
def valS (s : Str) (a b : Int) : Int := if s = "+" then (a + b) % W40 else if s = "-" then (a - b) % W40 else if s = "*" then a * b % W40 else
  if s = "<" then (if a < b then 1 else 0) else if s = "=" then (if a = b then 1 else 0) else if s = "&" then Builtin.bitAnd a b else if s = "|" then Builtin.bitOr a b else Builtin.bitXor a b
theorem bits40 {a b : Int} (ha : In40 a) (hb : In40 b) : In40 (Builtin.bitAnd a b) ∧ In40 (Builtin.bitOr a b) ∧ In40 (Builtin.bitXor a b) := by
  obtain ⟨a0, a1⟩ := ha
  obtain ⟨b0, b1⟩ := hb
  have h1 : a.toNat < 2 ^ 40 := by omega
  have h2 : b.toNat < 2 ^ 40 := by omega
  rw [bitAnd_pp a0 b0, Bits.bitOr_pp a0 b0, Bits.bitXor_pp a0 b0]
  have k1 := Nat.and_lt_two_pow a.toNat h2
  have k2 := Nat.or_lt_two_pow h1 h2
  have k3 := Nat.xor_lt_two_pow h1 h2
  unfold In40
  refine ⟨⟨?_, ?_⟩, ⟨?_, ?_⟩, ⟨?_, ?_⟩⟩ <;> omega
theorem valS_40 {s : Str} {a b : Int} (ha : In40 a) (hb : In40 b) : In40 (valS s a b) := by
  obtain ⟨k1, k2, k3⟩ := bits40 ha hb
  have m : ∀ z : Int, In40 (z % W40) := fun z => ⟨Int.emod_nonneg _ (by decide), Int.emod_lt_of_pos _ (by decide)⟩
  unfold valS
  repeat' split
  all_goals first
    | exact m _
    | exact k1
    | exact k2
    | exact k3
    | exact ⟨by decide, by decide⟩
structure PSt where
  at_ : Nat
  done : Nat
  hears : Nat
  res : Option Int
  hk : List Key
  hv : List Int
  ck : List Key
  cv : List Int
  sk : List Key
  sv : List (List Int)
  gone : List Int
def optI : Option Int → DV
  | none => .non
  | some v => .int v
def PSt.worth (st : PSt) : Atm → Int
  | .n i => i
  | .x s => (lkG st.hk st.hv (.inr s)).getD 0
def PSt.out (st : PSt) (x : Str) (v : Int) : PSt := { st with hk := putKs st.hk (.inr x), hv := putG st.hk st.hv (.inr x) v }
def PSt.cell (st : PSt) (c : Str) : Int := (lkG st.ck st.cv (.inr c)).getD 0
def PSt.shelf (st : PSt) (s : Str) : List Int := (lkG st.sk st.sv (.inr s)).getD [0]
def placeN (l : List Int) (v : Int) : Nat := (v % (l.length : Int)).toNat
/-- a row done, but for where it leads -/
def PSt.does (coming : List Int) (st : PSt) : PRow → PSt
  | .say a => { st with gone := st.gone ++ [st.worth a] }
  | .copy x a => st.out x (st.worth a)
  | .op x s a b => st.out x (valS s (st.worth a) (st.worth b))
  | .load x c => st.out x (st.cell c)
  | .store c a => { st with cv := rpG (.inr c) (st.worth a) st.ck st.cv }
  | .take x s a => st.out x ((st.shelf s).getD (placeN (st.shelf s) (st.worth a)) 0)
  | .lay s a b => { st with sv := rpG (.inr s) ((st.shelf s).set (placeN (st.shelf s) (st.worth a)) (st.worth b)) st.sk st.sv }
  | .hear x => { st.out x (coming.getD st.hears 0) with hears := st.hears + 1 }
  | .ifr _ _ => st
  | .go _ => st
  | .endr a => { st with res := some (st.worth a) }
def PSt.next (st : PSt) : PRow → Nat
  | .ifr a n => if st.worth a = 0 then st.at_ + 1 else n
  | .go n => n
  | .endr _ => st.at_
  | _ => st.at_ + 1
def PSt.step (rows : List PRow) (coming : List Int) (st : PSt) : PSt := match st.res with
  | some _ => st
  | none => match rows[st.at_]? with
    | none => st
    | some r => { st.does coming r with done := st.done + 1, at_ := st.next r }
def PRow.Ok (ck sk : List Key) : PRow → Prop
  | .say a => a.Ok
  | .copy _ a => a.Ok
  | .op _ s a b => isSign s ∧ a.Ok ∧ b.Ok
  | .load _ c => hasK ck (.inr c) = true
  | .store c a => hasK ck (.inr c) = true ∧ a.Ok
  | .take _ s a => hasK sk (.inr s) = true ∧ a.Ok
  | .lay s a b => hasK sk (.inr s) = true ∧ a.Ok ∧ b.Ok
  | .hear _ => True
  | .ifr a _ => a.Ok
  | .go _ => True
  | .endr a => a.Ok
structure PSt.Ok (st : PSt) : Prop where
  hl : st.hk.length = st.hv.length
  hr : ∀ v ∈ st.hv, In40 v
  cl : st.ck.length = st.cv.length
  cr : ∀ v ∈ st.cv, In40 v
  sl : st.sk.length = st.sv.length
  sr : ∀ l ∈ st.sv, l ≠ [] ∧ l.length ≤ 1000 ∧ ∀ v ∈ l, In40 v
  hd : st.hk.length ≤ st.done
  gd : st.gone.length ≤ st.done
theorem in0 : In40 0 := ⟨by decide, by decide⟩
theorem PSt.Ok.worth {st : PSt} (O : st.Ok) {a : Atm} (h : a.Ok) : In40 (st.worth a) := by
  cases a with
  | n i => exact h
  | x s =>
    show In40 ((lkG st.hk st.hv (.inr s)).getD 0)
    cases e : lkG st.hk st.hv (.inr s) with
    | none => exact in0
    | some v => exact O.hr v (lkG_mem e)
theorem PSt.Ok.shelf {st : PSt} (O : st.Ok) {s : Str} (h : hasK st.sk (.inr s) = true) : lkG st.sk st.sv (.inr s) = some (st.shelf s) ∧ st.shelf s ≠ [] ∧ (st.shelf s).length ≤ 1000 ∧ ∀ v ∈ st.shelf s, In40 v := by
  obtain ⟨l, e⟩ := lkG_has O.sl h
  have e2 : st.shelf s = l := by
    unfold PSt.shelf
    rw [e]
    rfl
  rw [e2]
  exact ⟨e, O.sr l (lkG_mem e)⟩
theorem PSt.Ok.cell {st : PSt} (O : st.Ok) {c : Str} (h : hasK st.ck (.inr c) = true) : lkG st.ck st.cv (.inr c) = some (st.cell c) ∧ In40 (st.cell c) := by
  obtain ⟨l, e⟩ := lkG_has O.cl h
  have e2 : st.cell c = l := by
    unfold PSt.cell
    rw [e]
    rfl
  rw [e2]
  exact ⟨e, O.cr l (lkG_mem e)⟩
theorem PSt.Ok.out {st : PSt} (O : st.Ok) {x : Str} {v : Int} (hv : In40 v) {d : Nat} (hd : st.done + 1 ≤ d) {h : Nat} {a : Nat} {r : Option Int} : PSt.Ok { st.out x v with done := d, hears := h, at_ := a, res := r } :=
  ⟨putG_len O.hl, putG_mem hv O.hr, O.cl, O.cr, O.sl, O.sr, by
    have h1 : (putKs st.hk (Sum.inr x : Key)).length ≤ st.hk.length + 1 := putKs_len
    have h2 := O.hd
    show (putKs st.hk (Sum.inr x : Key)).length ≤ d
    omega, by
    have h2 := O.gd
    show st.gone.length ≤ d
    omega⟩
theorem placeN_lt {l : List Int} (h : l ≠ []) (v : Int) : placeN l v < l.length := by
  have h1 : 0 < l.length := List.length_pos_iff.mpr h
  have h2 := Int.emod_lt_of_pos v (b := (l.length : Int)) (by omega)
  have h3 := Int.emod_nonneg v (b := (l.length : Int)) (by omega)
  unfold placeN
  omega
theorem PSt.Ok.step {st : PSt} (O : st.Ok) {rows : List PRow} {coming : List Int} (hc : ∀ v ∈ coming, In40 v) (hr : ∀ r ∈ rows, r.Ok st.ck st.sk) : (st.step rows coming).Ok ∧ (st.step rows coming).ck = st.ck ∧ (st.step rows coming).sk = st.sk := by
  unfold PSt.step
  cases e : st.res with
  | some v => exact ⟨O, rfl, rfl⟩
  | none =>
    cases e2 : rows[st.at_]? with
    | none => exact ⟨O, rfl, rfl⟩
    | some r =>
      have hok := hr r (List.mem_of_getElem? e2)
      have hd := O.hd
      have gd := O.gd
      cases r with
      | say a => exact ⟨⟨O.hl, O.hr, O.cl, O.cr, O.sl, O.sr, Nat.le_succ_of_le hd, by simp [PSt.does]; omega⟩, rfl, rfl⟩
      | copy x a => exact ⟨O.out (O.worth hok) (Nat.le_refl _), rfl, rfl⟩
      | op x s a b => exact ⟨O.out (valS_40 (O.worth hok.2.1) (O.worth hok.2.2)) (Nat.le_refl _), rfl, rfl⟩
      | load x c => exact ⟨O.out (O.cell hok).2 (Nat.le_refl _), rfl, rfl⟩
      | store c a => exact ⟨⟨O.hl, O.hr, (O.cl.trans ((rp_len O.cl).trans O.cl).symm), rpG_mem (O.worth hok.2) O.cr, O.sl, O.sr, Nat.le_succ_of_le hd, Nat.le_succ_of_le gd⟩, rfl, rfl⟩
      | take x s a =>
        obtain ⟨_, s1, _, s2⟩ := O.shelf hok.1
        refine ⟨O.out ?_ (Nat.le_refl _), rfl, rfl⟩
        have hlt := placeN_lt s1 (st.worth a)
        rw [List.getD_eq_getElem?_getD, List.getElem?_eq_getElem hlt]
        exact s2 _ (List.getElem_mem hlt)
      | lay s a b =>
        obtain ⟨_, s1, s3, s2⟩ := O.shelf hok.1
        refine ⟨⟨O.hl, O.hr, O.cl, O.cr, (O.sl.trans ((rp_len O.sl).trans O.sl).symm), rpG_mem (P := fun l => l ≠ [] ∧ l.length ≤ 1000 ∧ ∀ v ∈ l, In40 v) ⟨?_, by rw [List.length_set]; exact s3, fun v hv => ?_⟩ O.sr, Nat.le_succ_of_le hd, Nat.le_succ_of_le gd⟩, rfl, rfl⟩
        · exact fun q => s1 (by simpa using q)
        · rcases List.mem_or_eq_of_mem_set hv with h | h
          · exact s2 v h
          · rw [h]
            exact O.worth hok.2.2
      | hear x =>
        refine ⟨O.out ?_ (Nat.le_refl _), rfl, rfl⟩
        rw [List.getD_eq_getElem?_getD]
        cases e3 : coming[st.hears]? with
        | none => exact in0
        | some v => exact hc v (List.mem_of_getElem? e3)
      | ifr a n => exact ⟨⟨O.hl, O.hr, O.cl, O.cr, O.sl, O.sr, Nat.le_succ_of_le hd, Nat.le_succ_of_le gd⟩, rfl, rfl⟩
      | go n => exact ⟨⟨O.hl, O.hr, O.cl, O.cr, O.sl, O.sr, Nat.le_succ_of_le hd, Nat.le_succ_of_le gd⟩, rfl, rfl⟩
      | endr a => exact ⟨⟨O.hl, O.hr, O.cl, O.cr, O.sl, O.sr, Nat.le_succ_of_le hd, Nat.le_succ_of_le gd⟩, rfl, rfl⟩
end Dn

namespace Dn
open PySem PySem.Spec PyProof.Rows L2
/-! ### tuples' places -/
section
variable {a b c d e x : DV} {S : Sto} {s t u y : Str}
@[simp] theorem ix_t1_0 : pIx (.tup [a]) (.int 0) S = some (a, S) := (rfl)
@[simp] theorem ix_t2_0 : pIx (.tup [a, b]) (.int 0) S = some (a, S) := (rfl)
@[simp] theorem ix_t2_1 : pIx (.tup [a, b]) (.int 1) S = some (b, S) := (rfl)
@[simp] theorem ix_t3_0 : pIx (.tup [a, b, c]) (.int 0) S = some (a, S) := (rfl)
@[simp] theorem ix_t3_1 : pIx (.tup [a, b, c]) (.int 1) S = some (b, S) := (rfl)
@[simp] theorem ix_t3_2 : pIx (.tup [a, b, c]) (.int 2) S = some (c, S) := (rfl)
@[simp] theorem ix_t4_0 : pIx (.tup [a, b, c, d]) (.int 0) S = some (a, S) := (rfl)
@[simp] theorem ix_t4_1 : pIx (.tup [a, b, c, d]) (.int 1) S = some (b, S) := (rfl)
@[simp] theorem ix_t4_2 : pIx (.tup [a, b, c, d]) (.int 2) S = some (c, S) := (rfl)
@[simp] theorem ix_t4_3 : pIx (.tup [a, b, c, d]) (.int 3) S = some (d, S) := (rfl)
@[simp] theorem ix_t5_0 : pIx (.tup [a, b, c, d, e]) (.int 0) S = some (a, S) := (rfl)
@[simp] theorem ix_t5_1 : pIx (.tup [a, b, c, d, e]) (.int 1) S = some (b, S) := (rfl)
@[simp] theorem ix_t5_2 : pIx (.tup [a, b, c, d, e]) (.int 2) S = some (c, S) := (rfl)
@[simp] theorem ix_t5_3 : pIx (.tup [a, b, c, d, e]) (.int 3) S = some (d, S) := (rfl)
@[simp] theorem ix_t5_4 : pIx (.tup [a, b, c, d, e]) (.int 4) S = some (e, S) := (rfl)
theorem eqF_str : eqF (.str s) (.str y) = decide (s = y) := by
  show (s == y) = _
  by_cases q : s = y
  · rw [q]
    simp
  · rw [decide_eq_false q]
    simpa using q
@[simp] theorem in_t3 : pIn false (.str y) (.tup [.str s, .str t, .str u]) S = some (.bl (decide (s = y) || (decide (t = y) || decide (u = y))), S) := by
  unfold pIn
  simp [inD, eqF_str, flD]
end
/-! ### the plain machine in the store -/
structure PLoc where
  o : Nat
  l : Nat
  c : Nat
  h : Nat
  ce : Nat
  p : Nat
  g : Nat
  ss : List Nat
def PLoc.fp (L : PLoc) : List Nat := L.o :: L.l :: L.c :: L.h :: L.ce :: L.p :: L.g :: L.ss
def plF (rows : List PRow) (L : PLoc) (st : PSt) : List (Str × DV) :=
  [("rows", .tup (rows.map PRow.d)), ("leads", .loc L.l), ("coming", .loc L.c), ("at", .int st.at_), ("held", .loc L.h), ("cells", .loc L.ce), ("places", .loc L.p), ("gone", .loc L.g), ("hears", .int st.hears), ("done", .int st.done), ("result", optI st.res)]
structure PlAt (S : Sto) (L : PLoc) (rows : List PRow) (coming : List Int) (st : PSt) : Prop where
  o : S[L.o]? = some (.ins "Plain" (plF rows L st))
  l : S[L.l]? = some (.lst (leadsD rows))
  c : S[L.c]? = some (.lst (coming.map .int))
  h : S[L.h]? = some (.dik st.hk (st.hv.map .int))
  ce : S[L.ce]? = some (.dik st.ck (st.cv.map .int))
  p : S[L.p]? = some (.dik st.sk (L.ss.map .loc))
  g : S[L.g]? = some (.lst (st.gone.map .int))
  s : ∀ (i : Nat) (l : List Int), st.sv[i]? = some l → ∃ n : Nat, L.ss[i]? = some n ∧ S[n]? = some (Cell.lst (l.map DV.int))
  sl : L.ss.length = st.sv.length
  sk : st.sk.Nodup
  skl : st.sk.length = st.sv.length
  nd : L.fp.Nodup
/-- what else is in the store stays -/
def Fr (L : PLoc) (S S1 : Sto) : Prop := S1.length = S.length ∧ ∀ i, i ∉ L.fp → S1[i]? = S[i]?
theorem Fr.refl {L : PLoc} {S : Sto} : Fr L S S := ⟨rfl, fun _ _ => rfl⟩
theorem Fr.trans {L : PLoc} {S S1 S2 : Sto} (a : Fr L S S1) (b : Fr L S1 S2) : Fr L S S2 := ⟨b.1.trans a.1, fun i h => (b.2 i h).trans (a.2 i h)⟩
theorem Fr.set {L : PLoc} {S : Sto} {n : Nat} {c : Cell} (h : n ∈ L.fp) : Fr L S (S.set n c) := ⟨List.length_set, fun i hi => List.getElem?_set_ne fun q => hi (by rw [← q]; exact h)⟩
section
variable {S S' : Sto} {L : PLoc} {rows : List PRow} {coming : List Int} {st : PSt}
theorem PlAt.ext (A : PlAt S L rows coming st) (e : ∀ i, i ∈ L.fp → S'[i]? = S[i]?) : PlAt S' L rows coming st := by
  have m : ∀ n ∈ L.ss, n ∈ L.fp := fun n h => by simp [PLoc.fp, h]
  refine ⟨?_, ?_, ?_, ?_, ?_, ?_, ?_, fun i l hl => ?_, A.sl, A.sk, A.skl, A.nd⟩
  · rw [e _ (by simp [PLoc.fp])]; exact A.o
  · rw [e _ (by simp [PLoc.fp])]; exact A.l
  · rw [e _ (by simp [PLoc.fp])]; exact A.c
  · rw [e _ (by simp [PLoc.fp])]; exact A.h
  · rw [e _ (by simp [PLoc.fp])]; exact A.ce
  · rw [e _ (by simp [PLoc.fp])]; exact A.p
  · rw [e _ (by simp [PLoc.fp])]; exact A.g
  · obtain ⟨n, h1, h2⟩ := A.s i l hl
    exact ⟨n, h1, by rw [e _ (m n (List.mem_of_getElem? h1))]; exact h2⟩
theorem rpG_get {κ α : Type} [DecidableEq κ] {j : κ} {v : α} : ∀ {ks : List κ} {vs : List α} {i : Nat}, (rpG j v ks vs : List α)[i]? = match ks[i]?, vs[i]? with
    | some k, some u => some (if k = j then v else u)
    | _, _ => none
  | [], vs, i => by
    unfold rpG
    simp
  | k :: ks, [], i => by
    unfold rpG
    cases h : (k :: ks)[i]? <;> simp
  | k :: ks, u :: vs, 0 => by
    unfold rpG
    rfl
  | k :: ks, u :: vs, i + 1 => by
    unfold rpG
    rw [List.getElem?_cons_succ, List.getElem?_cons_succ, List.getElem?_cons_succ, rpG_get]
theorem lkG_ix {κ α : Type} [DecidableEq κ] {j : κ} {v : α} : ∀ {ks : List κ} {vs : List α}, lkG ks vs j = some v → ∃ i : Nat, ks[i]? = some j ∧ vs[i]? = some v ∧ ∀ {β : Type} {us : List β} {u : β}, us[i]? = some u → lkG ks us j = some u
  | [], vs, h => by
    unfold lkG at h
    cases h
  | k :: ks, [], h => by
    unfold lkG at h
    cases h
  | k :: ks, w :: vs, h => by
    unfold lkG at h
    by_cases q : k = j
    · rw [if_pos q] at h
      refine ⟨0, by rw [← q] <;> rfl, h, fun {β us u} hu => ?_⟩
      cases us with
      | nil => cases hu
      | cons x us =>
        unfold lkG
        rw [if_pos q]
        exact hu
    · rw [if_neg q] at h
      obtain ⟨i, h1, h2, h3⟩ := lkG_ix h
      refine ⟨i + 1, h1, h2, fun {β us u} hu => ?_⟩
      cases us with
      | nil => cases hu
      | cons x us =>
        unfold lkG
        rw [if_neg q]
        exact h3 hu
theorem nodup_ix {α : Type} {a : α} : ∀ {l : List α} {i j : Nat}, l.Nodup → l[i]? = some a → l[j]? = some a → i = j
  | [], i, j, _, h, _ => by simp at h
  | x :: l, 0, 0, _, _, _ => rfl
  | x :: l, 0, j + 1, n, h, h2 => by
    rw [List.nodup_cons] at n
    have e : x = a := by simpa using h
    exact absurd (List.mem_of_getElem? (by simpa using h2)) (by rw [← e]; exact n.1)
  | x :: l, i + 1, 0, n, h, h2 => by
    rw [List.nodup_cons] at n
    have e : x = a := by simpa using h2
    exact absurd (List.mem_of_getElem? (by simpa using h)) (by rw [← e]; exact n.1)
  | x :: l, i + 1, j + 1, n, h, h2 => by
    rw [List.nodup_cons] at n
    have h' : l[i]? = some a := by simpa using h
    have h2' : l[j]? = some a := by simpa using h2
    exact congrArg (· + 1) (nodup_ix n.2 h' h2')
/-- where a shelf's places are -/
theorem PlAt.shelf (A : PlAt S L rows coming st) {s : Str} {l : List Int} (h : lkG st.sk st.sv (.inr s) = some l) : ∃ n : Nat, n ∈ L.fp ∧ lkD st.sk (L.ss.map .loc) (.inr s) = some (.loc n) ∧ S[n]? = some (Cell.lst (l.map DV.int)) ∧
    ∀ l', PlAt (S.set n (.lst (l'.map .int))) L rows coming { st with sv := rpG (.inr s) l' st.sk st.sv } := by
  obtain ⟨i, h1, h2, h3⟩ := lkG_ix h
  obtain ⟨n, h4, h5⟩ := A.s i l h2
  have hm : n ∈ L.ss := List.mem_of_getElem? h4
  have nd := A.nd
  simp only [PLoc.fp, List.nodup_cons, List.mem_cons, not_or] at nd
  obtain ⟨⟨n1, n2, n3, n4, n5, n6, n7⟩, ⟨l1, l2, l3, l4, l5, l6⟩, ⟨c1, c2, c3, c4, c5⟩, ⟨k1, k2, k3, k4⟩, ⟨e1, e2, e3⟩, ⟨p1, p2⟩, g1, ns⟩ := nd
  refine ⟨n, by simp [PLoc.fp, hm], by rw [lkD_map, h3 h4] <;> rfl, h5, fun l' => ⟨?_, ?_, ?_, ?_, ?_, ?_, ?_, fun i' u hu => ?_, ?_, A.sk, ?_, A.nd⟩⟩
  · rw [List.getElem?_set_ne fun q => n7 (by rw [← q]; exact hm)]; exact A.o
  · rw [List.getElem?_set_ne fun q => l6 (by rw [← q]; exact hm)]; exact A.l
  · rw [List.getElem?_set_ne fun q => c5 (by rw [← q]; exact hm)]; exact A.c
  · rw [List.getElem?_set_ne fun q => k4 (by rw [← q]; exact hm)]; exact A.h
  · rw [List.getElem?_set_ne fun q => e3 (by rw [← q]; exact hm)]; exact A.ce
  · rw [List.getElem?_set_ne fun q => p2 (by rw [← q]; exact hm)]; exact A.p
  · rw [List.getElem?_set_ne fun q => g1 (by rw [← q]; exact hm)]; exact A.g
  · have hu' : (rpG (Sum.inr s : Key) l' st.sk st.sv)[i']? = some u := hu
    rw [rpG_get] at hu'
    cases e1 : st.sk[i']? with
    | none =>
      rw [e1] at hu'
      cases hu'
    | some k =>
      cases e2 : st.sv[i']? with
      | none =>
        rw [e1, e2] at hu'
        cases hu'
      | some w =>
        rw [e1, e2] at hu'
        cases hu'
        obtain ⟨m, m1, m2⟩ := A.s i' w e2
        by_cases q : k = Sum.inr s
        · have ii : i' = i := by
            exact nodup_ix A.sk (by rw [e1, q]) h1
          subst ii
          rw [if_pos q]
          exact ⟨n, h4, List.getElem?_set_self (get_lt h5)⟩
        · rw [if_neg q]
          refine ⟨m, m1, ?_⟩
          rw [List.getElem?_set_ne]
          · exact m2
          · intro qq
            subst qq
            have : i' = i := nodup_ix ns m1 h4
            subst this
            rw [e1] at h1
            exact q (Option.some.inj h1)
  · show L.ss.length = (rpG (Sum.inr s : Key) l' st.sk st.sv).length
    rw [rp_len A.skl, A.sl, A.skl]
  · show st.sk.length = (rpG (Sum.inr s : Key) l' st.sk st.sv).length
    rw [rp_len A.skl]
end
end Dn

/-! loops over the keys of a live dict: it is locked while it is walked -/
namespace Dn
open PySem PySem.Spec PyProof.Rows L2
def notLok : Cell → Bool
  | .lok _ _ => false
  | .lokt _ _ => false
  | _ => true
section
variable {X : Cx} {e : Expr} {f : DE} {st : Stmt}
end
end Dn

/-! names set by the places of a list -/
namespace Dn
open PySem PySem.Spec PyProof.Rows L2
section
variable {X : Cx} {e : Expr} {es : List Expr}
end
end Dn

/-! sorted texts, comprehensions over a live dict, reversed ranges -/
namespace Dn
open PySem PySem.Spec PyProof.Rows L2
/-! ### texts in order -/
/-! ### sorted -/
/-! ### an expression that walks a dict: it is locked meanwhile -/
section
variable {X : Cx} {e : Expr} {f g : DE}
end
/-! ### a statement that walks a dict -/
section
variable {X : Cx} {st : Stmt} {f : DE} {s : DS}
end
/-! ### reversed(range(n)), range(i, j, c), text.index(sign) -/
section
variable {X : Cx} {e : Expr} {f g : DE} {fa : DA}
end
end Dn

/-! dicts with keys (number, truth) -/
namespace Dn
open PySem PySem.Spec PyProof.Rows L2

section
variable {P : Program} {w : World} {H : Hp} {h : Heap} {a b : Addr}
end
section
variable {X : Cx}
end

/-! ### over the store -/
section
variable {F : Fm} {S : Sto} {H : Hp}
end
section
variable {X : Cx} {e a b : Expr} {f g : DE} {pos : Pos} {st : Stmt}
end
end Dn

/-! tables of the module with text keys; {(i, b): v} -/
namespace Dn
open PySem PySem.Spec PyProof.Rows L2

/-! ### tables -/
section
variable {X : Cx} {e a b : Expr} {f g : DE} {pos p1 : Pos} {x : Str} {kvs : List (Str × He.Dv)}
end
/-! ### the head, with tables -/
/-! ### {(i, b): v} -/
section
variable {X : Cx} {k v : Expr} {tk tv : TE} {pos : Pos} {f g : DE}
end
end Dn

/-! sorted(set(xs)), len(set(xs)) -/
namespace Dn
open PySem PySem.Spec PyProof.Rows L2

/-! ### a set of numbers and texts whose table can be walked -/
structure KSe (P : Program) (w : World) (L : List (Key × Value)) (es : Array (Int × Value)) (t : SetTable) : Prop where
  perm : es.toList.Perm (L.map fun p => ((mixKind P w).hash p.1, p.2))
  is : ∀ p ∈ L, (mixKind P w).is p.1 p.2 = true ∧ p.2.scannable = true
  nd : (L.map (·.1)).Nodup
  few : L.length < scanBound
  fits : t.fits es.size = true
  ris : Ris t.place.toList
  led : w.params.followText "set-order" = true ∨ t.led = true
def KS (P : Program) (w : World) (h : Heap) (a : Addr) (L : List (Key × Value)) : Prop := ∃ o es ep t, h.get? a = some o ∧ o.ExactSet ∧ o.data = .set es ep t ∧ KSe P w L es t
section
variable {P : Program} {w : World} {L : List (Key × Value)} {es : Array (Int × Value)} {t : SetTable}
theorem KSe.size (K : KSe P w L es t) : es.size = L.length := by
  rw [← Array.length_toList, K.perm.length_eq, List.length_map]
theorem KS.at {h h' : Heap} {a : Addr} (R : KS P w h a L) (k : ∀ o, h.get? a = some o → h'.get? a = some o) : KS P w h' a L := by
  obtain ⟨o, es, ep, t, ho, r⟩ := R
  exact ⟨o, es, ep, t, k o ho, r⟩
end
section
variable {P : Program} {w : World} {A : Around} {E : Value → Shared → Prop} {s : Shared} {a : Addr}
end
end Dn

/-! sorted(set(xs)), len(set(xs)): the calls -/
namespace Dn
open PySem PySem.Spec PyProof.Rows L2
section
variable {P : Program} {w : World} {A : Around} {E : Value → Shared → Prop} {s : Shared}
end
end Dn

/-! sorted(set(xs)), len(set(xs)): the rules -/
namespace Dn
open PySem PySem.Spec PyProof.Rows L2
/-! ### sorted of the set at a -/
section
variable {P : Program} {w : World} {A : Around} {E : Value → Shared → Prop} {s : Shared} {a : Addr} {L : List (Key × Value)}
end
/-! ### the rules -/
section
variable {X : Cx}
end
/-! ### over the store -/
section
variable {X : Cx} {e a : Expr} {f : DE} {p p2 q pos : Pos}
end
end Dn

/-! x in (y, ..), data of any depth -/
namespace Dn
open PySem PySem.Spec PyProof.Rows L2
section
variable {X : Cx} {a b : Expr} {f g : DE} {pos : Pos}
end
end Dn

/-! (x, ..) * k -/
namespace Dn
open PySem PySem.Spec PyProof.Rows L2
section
variable {X : Cx}
end
end Dn

namespace Dn
open PySem PySem.Spec PyProof.Rows L2

/-! ### d.pop(k) -/
section
variable {X : Cx} {e a b o : Expr} {f g : DE} {fa : DA} {pos : Pos} {st : Stmt}
end

/-! ### min(d), its keys numbers -/
end Dn

/-! one step at a time -/
namespace Dn
open PySem PySem.Spec PyProof.Rows L2
section
variable {f g h : DE} {fa : DA} {s t : DS} {p : P2} {ρ ρ' : Ev} {S S1 S2 S3 S' : Sto} {i : Nat} {d x y z x' y' z' : DV} {pl F : PL} {xs ds : List DV} {o : Option Out} {r : Option (DV × Sto)}
theorem seq_nx (h : s ρ S = some (.nx ρ' S')) : dSeq s t ρ S = t ρ' S' := by rw [v_seq, h]
theorem seq_rt (h : s ρ S = some (.rt d S')) : dSeq s t ρ S = some (.rt d S') := by rw [v_seq, h]
theorem ifS_t (h : f ρ S = some (.bl true, S1)) : dIfS f s t ρ S = s ρ S1 := by rw [v_ifS, h]
theorem ifS_f (h : f ρ S = some (.bl false, S1)) : dIfS f s t ρ S = t ρ S1 := by rw [v_ifS, h]
theorem set_of (h : f ρ S = some (d, S1)) : dSet i f ρ S = some (.nx (ρ.set i (some d)) S1) := by rw [v_set, h]
theorem ret_of (h : f ρ S = some (d, S1)) : dRet f ρ S = some (.rt d S1) := by rw [v_ret, h]
theorem bin_of (h1 : f ρ S = some (x, S1)) (h2 : g ρ S1 = some (y, S2)) (h3 : p x y S2 = r) : dBin p f g ρ S = r := by
  rw [v_bin, h1]
  simp only [h2, h3]
theorem prim_of (h1 : fa ρ S = some (xs, S1)) (h2 : pl xs S1 = r) : dPrim pl fa ρ S = r := by
  rw [v_prim, h1]
  simp only [h2]
theorem args1 (h1 : f ρ S = some (x, S1)) : aCons f aNil ρ S = some ([x], S1) := by
  rw [v_cons, h1]
  rfl
theorem args2 (h1 : f ρ S = some (x, S1)) (h2 : g ρ S1 = some (y, S2)) : aCons f (aCons g aNil) ρ S = some ([x, y], S2) := by
  rw [v_cons, h1]
  simp only [args1 h2]
theorem args3 (h1 : f ρ S = some (x, S1)) (h2 : g ρ S1 = some (y, S2)) (h3 : h ρ S2 = some (z, S3)) : aCons f (aCons g (aCons h aNil)) ρ S = some ([x, y, z], S3) := by
  rw [v_cons, h1]
  simp only [args2 h2 h3]
theorem argsC {xs : List DV} (h1 : f ρ S = some (x, S1)) (h2 : fa ρ S1 = some (xs, S2)) : aCons f fa ρ S = some (x :: xs, S2) := by
  rw [v_cons, h1]
  simp only [h2]
theorem callP (h1 : fa ρ S = some (xs, S1)) (hc : cpL true S1 xs = some ds) (hp : pureOf F ds = some d) : dPrim (cP (pureOf F) []) fa ρ S = some (d, S1) := by
  rw [v_prim, h1]
  simp only [cP_eq, hc, hp]
theorem callPP (h1 : fa ρ S = some (xs, S1)) (hc : plainL xs = true) (hp : pureOf F xs = some d) : dPrim (cP (pureOf F) []) fa ρ S = some (d, S1) := callP h1 (cpL_plain hc) hp
theorem and_t (h1 : f ρ S = some (.bl true, S1)) (h2 : g ρ S1 = r) : dAnd f g ρ S = r := by
  rw [v_and, h1]
  simp only [h2]
theorem and_f (h1 : f ρ S = some (.bl false, S1)) : dAnd f g ρ S = some (.bl false, S1) := by rw [v_and, h1]
theorem or_f (h1 : f ρ S = some (.bl false, S1)) (h2 : g ρ S1 = r) : dOr f g ρ S = r := by
  rw [v_or, h1]
  simp only [h2]
theorem and_b {a b : Bool} (h1 : f ρ S = some (.bl a, S1)) (h2 : g ρ S1 = some (.bl b, S1)) : dAnd f g ρ S = some (.bl (a && b), S1) := by
  cases a with
  | true => exact and_t h1 h2
  | false => exact and_f h1
theorem not_of {a : Bool} (h1 : f ρ S = some (.bl a, S1)) : dNot f ρ S = some (.bl (!a), S1) := by rw [v_not, h1]
theorem for_of {it : DI} {gt : DG} (h1 : it ρ S = some (ds, S1)) (h2 : forL gt s ds ρ S1 = o) : dFor it gt s ρ S = o := by
  rw [v_for, h1]
  simp only [h2]
theorem run_rt {np n : Nat} {b : DS} (hl : xs.length = np) (h1 : b (xs.map some ++ List.replicate (n - xs.length) none) S = some (.rt d S')) : runF np n b xs S = some (d, S') := by
  unfold runF
  rw [if_pos hl, h1]
theorem sub_of {k : DV} (h1 : f ρ S = some (y, S1)) (h2 : g ρ S1 = some (x, S2)) (h3 : h ρ S2 = some (k, S3)) (h4 : setI x k y S3 = some S') : dSub f g h ρ S = some (.nx ρ S') := by
  unfold dSub
  simp only [h1, h2, h3, h4]
end
end Dn

/-! loops as folds -/
namespace Dn
open PySem PySem.Spec PyProof.Rows L2
theorem append_of {f e : DE} {ρ : Ev} {S : Sto} {n : Nat} {xs : List DV} {y : DV} (h1 : f ρ S = some (.loc n, S)) (hn : S[n]? = some (.lst xs)) (h2 : e ρ S = some (y, S)) (hz : xs.length < 16777216) :
    dExpr (dMt pAppend f (aCons e aNil)) ρ S = some (.nx ρ (S.set n (.lst (xs ++ [y])))) := by
  rw [v_expr, v_mt, h1]
  simp only [asL_loc hn, args1 h2, app_loc hn hz]
theorem choose_all {α β : Type} {P : α → β → Prop} (h : ∀ a, ∃ x, P a x) : ∃ f : α → β, ∀ a, P a (f a) := ⟨fun a => Classical.choose (h a), fun a => Classical.choose_spec (h a)⟩
end Dn

/-! more of loops and lists -/
namespace Dn
open PySem PySem.Spec PyProof.Rows L2
section
variable {f g : DE} {ρ : Ev} {S S1 S2 : Sto}
theorem rgN_of {n : Nat} (h : f ρ S = some (.int (n : Nat), S1)) (hz : n < 1000000) : iRange1 (aCons f aNil) ρ S = some ((List.range n).map fun (i : Nat) => DV.int i, S1) := by
  unfold iRange1
  rw [args1 h]
  simp only
  rw [if_pos (by omega), Int.toNat_natCast]
  unfold rgD
  refine congrArg some (congrArg (·, S1) (List.map_congr_left fun i _ => ?_))
  rw [Int.zero_add]
theorem lenL_of {k : LK} {xs : List DV} (h : f ρ S = some (.lst k xs, S1)) : dPrim pLen (aCons f aNil) ρ S = some (.int (xs.length : Nat), S1) := prim_of (args1 h) (by cases k <;> rfl)
theorem lenT_of {xs : List DV} (h : f ρ S = some (.tup xs, S1)) : dPrim pLen (aCons f aNil) ρ S = some (.int (xs.length : Nat), S1) := prim_of (args1 h) rfl
theorem iSeqL_of {k : LK} {xs : List DV} (h : f ρ S = some (.lst k xs, S1)) : iSeq f ρ S = some (xs, S1) := by
  rw [iSeq_eq, h]
theorem iSeqT_of {xs : List DV} (h : f ρ S = some (.tup xs, S1)) : iSeq f ρ S = some (xs, S1) := by
  rw [iSeq_eq, h]
/-- a comprehension of all -/
theorem lc_all {α : Type} {D E : α → DV} {g : DG} {c fe : DE} : ∀ {K : List α}, (∀ b ∈ K, ∃ ρ1, g (D b) ρ S = some (ρ1, S) ∧ c ρ1 S = some (.bl true, S) ∧ fe ρ1 S = some (E b, S)) → lcL g c fe ρ (K.map D) S = some (K.map E, S)
  | [], _ => rfl
  | b :: K, h => by
    obtain ⟨ρ1, h1, h2, h3⟩ := h b List.mem_cons_self
    rw [List.map_cons]
    unfold lcL
    simp only [h1, h2, h3, lc_all fun b hb => h b (List.mem_cons_of_mem _ hb)]
    rfl
end
end Dn

/-! sorted(..) of numbers -/
namespace Dn
open PySem PySem.Spec PyProof.Rows L2
end Dn

/-! text * number -/
namespace Dn
open PySem PySem.Spec PyProof.Rows L2
section
variable {X : Cx}
end
end Dn

/-! a comprehension over a list that stays -/
namespace Dn
open PySem PySem.Spec PyProof.Rows L2
theorem addI_of {f g : DE} {ρ : Ev} {S S1 S2 : Sto} {a b : Int} (h1 : f ρ S = some (.int a, S1)) (h2 : g ρ S1 = some (.int b, S2)) : dBin pAdd f g ρ S = some (.int (a + b), S2) := bin_of h1 h2 rfl
theorem subI_of {f g : DE} {ρ : Ev} {S S1 S2 : Sto} {a b : Int} (h1 : f ρ S = some (.int a, S1)) (h2 : g ρ S1 = some (.int b, S2)) : dBin pSub f g ρ S = some (.int (a - b), S2) := bin_of h1 h2 rfl
theorem modI_of {f g : DE} {ρ : Ev} {S S1 S2 : Sto} {a b : Int} (h1 : f ρ S = some (.int a, S1)) (h2 : g ρ S1 = some (.int b, S2)) (hb : 0 < b) : dBin pMod f g ρ S = some (.int (a % b), S2) := bin_of h1 h2 (v_modI hb)
end Dn

/-! list(reversed(a list)) -/
namespace RT
open PySem PySem.Spec PyProof.Rows
section
variable {prog : Program} {w : World} {A : Around} {E : Value → Shared → Prop} {s : Shared}
end
section
variable {prog : Program} {w : World} {A : Around} {E : Value → Shared → Prop} {s : Shared}
end
end RT
namespace Dn
open PySem PySem.Spec PyProof.Rows L2 RT
section
variable {X : Cx}
end
end Dn

/-! list(range(i, j)) -/
namespace Dn
open PySem PySem.Spec PyProof.Rows L2
section
variable {X : Cx}
end
end Dn

/-! x in [y, ..], data of any depth -/
namespace Dn
open PySem PySem.Spec PyProof.Rows L2
section
variable {X : Cx} {a b : Expr} {f g : DE} {pos : Pos}
end
end Dn

/-! max(a list of numbers, default=d) -/
namespace Dn
open PySem PySem.Spec PyProof.Rows L2
section
variable {prog : Program} {w : World} {A : Around} {R : Result → Shared → Prop} {I : Addr} {fp wr : List Addr} {G : Array GenState → Array GenState → Prop} {n : Nat} {P : Nat → Value → Prop} {St : Nat → Shared → Prop}
end
section
variable {prog : Program} {w : World} {A : Around} {E : Value → Shared → Prop} {s : Shared} {l : Addr} {its : List Value} {ns : List Int} {Q : Value → Shared → Prop}
end
section
variable {X : Cx}
/-- a denotation that tells nothing is sound of itself (for the bottom of a recursion) -/
theorem SDs.none {st : List Stmt} : SDs X st (fun _ _ => Option.none) := ⟨⟨fun _ _ _ _ _ _ ⟨_, _, _, _, _, _, _, hf, _⟩ => by cases hf⟩⟩
end
end Dn

/-! one of several classes; fields as targets; makers without a def; isinstance of own classes; dict(..) -/
namespace Dn
open PySem PySem.Spec PyProof.Rows L2
def orD (f g : DE) : DE := fun ρ S => match f ρ S with
  | some r => some r
  | none => g ρ S
@[simp] theorem v_orD {f g : DE} {ρ : Ev} {S : Sto} : orD f g ρ S = (match f ρ S with | some r => some r | none => g ρ S) := (rfl)
/-! ### a field as a target -/
/-! ### C() without an __init__ -/
/-! ### isinstance(x, C), C a class of the text -/
/-! ### dict(pairs) -/
end Dn

/-! a part of the store, cell by cell; dicts as lists of pairs -/
namespace Dn
open PySem PySem.Spec PyProof.Rows L2
abbrev Cs := List (Nat × Cell)
structure AtS (S : Sto) (l : Cs) : Prop where
  nd : (l.map (·.1)).Nodup
  get : ∀ p ∈ l, S[p.1]? = some p.2
theorem AtS.at {S : Sto} {l : Cs} (A : AtS S l) (k : Nat) {a : Nat} {c : Cell} (h : l[k]? = some (a, c) := by rfl) : S[a]? = some c := A.get (a, c) (List.mem_of_getElem? h)
theorem AtS.ext {S S' : Sto} {l : Cs} (A : AtS S l) (h : ∀ a ∈ l.map (·.1), S'[a]? = S[a]?) : AtS S' l :=
  ⟨A.nd, fun p hp => by rw [h p.1 (List.mem_map_of_mem hp)]; exact A.get p hp⟩
theorem AtS.lt {S : Sto} {l : Cs} (A : AtS S l) {a : Nat} (h : a ∈ l.map (·.1)) : a < S.length := by
  obtain ⟨p, hp, rfl⟩ := List.mem_map.mp h
  exact (List.getElem?_eq_some_iff.mp (A.get p hp)).1
/-- from a part to a part: what else was there stays -/
structure Stp (S : Sto) (l : Cs) (S' : Sto) (l' : Cs) : Prop where
  at_ : AtS S' l'
  len : S.length ≤ S'.length
  fr : ∀ i, i < S.length → i ∉ l.map (·.1) → S'[i]? = S[i]?
  fp : ∀ a ∈ l'.map (·.1), a ∈ l.map (·.1) ∨ S.length ≤ a
  nl : S.all notLok = true → S'.all notLok = true
theorem Stp.refl {S : Sto} {l : Cs} (A : AtS S l) : Stp S l S l := ⟨A, Nat.le_refl _, fun _ _ _ => rfl, fun _ h => .inl h, fun h => h⟩
theorem Stp.trans {S S1 S2 : Sto} {l l1 l2 : Cs} (a : Stp S l S1 l1) (b : Stp S1 l1 S2 l2) : Stp S l S2 l2 :=
  ⟨b.at_, Nat.le_trans a.len b.len, fun i h hi => (b.fr i (Nat.lt_of_lt_of_le h a.len) fun q => (a.fp i q).elim hi fun z => absurd h (by omega)).trans (a.fr i h hi),
    fun x hx => (b.fp x hx).elim (a.fp x) fun z => .inr (Nat.le_trans a.len z), fun h => b.nl (a.nl h)⟩
theorem map_fst_set {l : Cs} {k a : Nat} {c c' : Cell} (h : l[k]? = some (a, c)) : (l.set k (a, c')).map (·.1) = l.map (·.1) := by
  rw [List.map_set]
  obtain ⟨h1, h2⟩ := List.getElem?_eq_some_iff.mp h
  refine List.ext_getElem? fun i => ?_
  rw [List.getElem?_set]
  split
  · rename_i q
    subst q
    rw [if_pos (by rw [List.length_map]; exact h1), List.getElem?_map, h] <;> rfl
  · rfl
theorem all_set {S : Sto} {a : Nat} {c : Cell} (h : S.all notLok = true) (hc : notLok c = true) : (S.set a c).all notLok = true :=
  List.all_eq_true.mpr fun x hx => (List.mem_or_eq_of_mem_set hx).elim (List.all_eq_true.mp h x) fun e => by rw [e]; exact hc
/-- a cell is written -/
theorem Stp.set {S : Sto} {l : Cs} (A : AtS S l) (k : Nat) {a : Nat} {c : Cell} (c' : Cell) (h : l[k]? = some (a, c) := by rfl) (hc : notLok c' = true := by rfl) : Stp S l (S.set a c') (l.set k (a, c')) := by
  have hl := A.lt (a := a) (List.mem_map.mpr ⟨_, List.mem_of_getElem? h, rfl⟩)
  have hk := (List.getElem?_eq_some_iff.mp h).1
  refine ⟨⟨by rw [map_fst_set h]; exact A.nd, fun p hp => ?_⟩, by rw [List.length_set]; exact Nat.le_refl _, fun i _ hi => ?_, fun x hx => .inl (by rw [map_fst_set h] at hx; exact hx), fun q => all_set q hc⟩
  · obtain ⟨i, hi⟩ := List.getElem?_of_mem hp
    rw [List.getElem?_set] at hi
    split at hi
    · rename_i q
      subst q
      have hi := Option.some.inj hi
      rw [← hi]
      exact List.getElem?_set_self hl
    · rename_i q
      have hne : a ≠ p.1 := fun e => by
        have n := List.pairwise_iff_getElem.mp A.nd
        have i1 := (List.getElem?_eq_some_iff.mp hi).1
        have e1 : (l.map (·.1))[k]? = some a := by rw [List.getElem?_map, h] <;> rfl
        have e2 : (l.map (·.1))[i]? = some p.1 := by rw [List.getElem?_map, hi] <;> rfl
        obtain ⟨g1, g2⟩ := List.getElem?_eq_some_iff.mp e1
        obtain ⟨g3, g4⟩ := List.getElem?_eq_some_iff.mp e2
        rcases Nat.lt_or_gt_of_ne q with z | z
        · exact n k i g1 g3 z (by rw [g2, g4]; exact e)
        · exact n i k g3 g1 z (by rw [g2, g4]; exact e.symm)
      rw [List.getElem?_set_ne hne]
      exact A.get p (List.mem_of_getElem? hi)
  · rw [List.getElem?_set_ne fun e => hi (by rw [← e]; exact List.mem_map.mpr ⟨_, List.mem_of_getElem? h, rfl⟩)]
/-- a new cell in the place of one -/
theorem Stp.new {S : Sto} {l : Cs} (A : AtS S l) (k : Nat) (c : Cell) (hc : notLok c = true := by rfl) : Stp S l (S ++ [c]) (l.set k (S.length, c)) := by
  have old : ∀ {a : Nat}, a ∈ l.map (·.1) → (S ++ [c])[a]? = S[a]? := fun {a} h => List.getElem?_append_left (A.lt h)
  refine ⟨⟨?_, fun p hp => ?_⟩, by rw [List.length_append]; omega, fun i h _ => List.getElem?_append_left h, fun x hx => ?_, fun h => by rw [List.all_append, h]; simp [hc]⟩
  · rw [List.map_set]
    refine List.pairwise_iff_getElem.mpr fun i j hi hj hij => ?_
    rw [List.length_set] at hi hj
    have hi' : i < l.length := by rw [List.length_map] at hi; exact hi
    have hj' : j < l.length := by rw [List.length_map] at hj; exact hj
    have lt : ∀ {i : Nat} (h : i < (l.map (·.1)).length), (l.map (·.1))[i]'h < S.length := fun {i} h => A.lt (List.getElem_mem h)
    rw [List.getElem_set, List.getElem_set]
    split
    · split
      · omega
      · exact Nat.ne_of_gt (lt hj)
    · split
      · exact Nat.ne_of_lt (lt hi)
      · exact List.pairwise_iff_getElem.mp A.nd i j hi hj hij
  · rcases List.mem_or_eq_of_mem_set hp with h | h
    · rw [old (List.mem_map_of_mem h)]
      exact A.get p h
    · rw [h]
      rw [List.getElem?_append_right (Nat.le_refl _), Nat.sub_self]
      rfl
  · obtain ⟨p, hp, rfl⟩ := List.mem_map.mp hx
    rcases List.mem_or_eq_of_mem_set hp with h | h
    · exact .inl (List.mem_map_of_mem h)
    · rw [h]
      exact .inr (Nat.le_refl _)
/-- .. behind the others -/
theorem Stp.more {S : Sto} {l : Cs} (A : AtS S l) (c : Cell) (hc : notLok c = true := by rfl) : Stp S l (S ++ [c]) (l ++ [(S.length, c)]) := by
  refine ⟨⟨?_, fun p hp => ?_⟩, by rw [List.length_append]; omega, fun i h _ => List.getElem?_append_left h, fun x hx => ?_, fun h => by rw [List.all_append, h]; simp [hc]⟩
  · rw [List.map_append]
    refine List.nodup_append.mpr ⟨A.nd, List.nodup_cons.mpr ⟨List.not_mem_nil, List.nodup_nil⟩, fun a ha b hb e => ?_⟩
    have := A.lt ha
    rw [List.mem_singleton.mp hb] at e
    have e : a = S.length := e
    omega
  · rcases List.mem_append.mp hp with h | h
    · rw [List.getElem?_append_left (A.lt (List.mem_map_of_mem h))]
      exact A.get p h
    · rw [List.mem_singleton.mp h]
      rw [List.getElem?_append_right (Nat.le_refl _), Nat.sub_self]
      rfl
  · rw [List.map_append] at hx
    rcases List.mem_append.mp hx with h | h
    · exact .inl h
    · rw [List.mem_singleton.mp h]
      exact .inr (Nat.le_refl _)
theorem AtS.ne {S : Sto} {l : Cs} (A : AtS S l) (i j : Nat) {a b : Nat} {c d : Cell} (hi : l[i]? = some (a, c) := by rfl) (hj : l[j]? = some (b, d) := by rfl) (h : i ≠ j := by decide) : a ≠ b := fun e => by
  have e1 : (l.map (·.1))[i]? = some a := by rw [List.getElem?_map, hi] <;> rfl
  have e2 : (l.map (·.1))[j]? = some b := by rw [List.getElem?_map, hj] <;> rfl
  obtain ⟨g1, g2⟩ := List.getElem?_eq_some_iff.mp e1
  obtain ⟨g3, g4⟩ := List.getElem?_eq_some_iff.mp e2
  rcases Nat.lt_or_gt_of_ne h with z | z
  · exact List.pairwise_iff_getElem.mp A.nd i j g1 g3 z (by rw [g2, g4]; exact e)
  · exact List.pairwise_iff_getElem.mp A.nd j i g3 g1 z (by rw [g2, g4]; exact e.symm)
/-- others' cells -/
theorem Stp.other {S S' : Sto} {l l' m : Cs} (T : Stp S l S' l') (B : AtS S m) (h : ∀ a ∈ m.map (·.1), a ∉ l.map (·.1)) : AtS S' m := B.ext fun a ha => T.fr a (B.lt ha) (h a ha)
theorem Stp.apart {S S' : Sto} {l l' m : Cs} (T : Stp S l S' l') (B : AtS S m) (h : ∀ a ∈ m.map (·.1), a ∉ l.map (·.1)) : ∀ a ∈ m.map (·.1), a ∉ l'.map (·.1) := fun a ha q =>
  (T.fp a q).elim (h a ha) fun z => absurd (B.lt ha) (by omega)
/-- what lies beside stays too -/
theorem Stp.sub {S S' : Sto} {l l' m : Cs} (T : Stp S l S' l') (A : AtS S (l ++ m)) : Stp S (l ++ m) S' (l' ++ m) := by
  have nd := A.nd
  rw [List.map_append] at nd
  obtain ⟨n1, n2, n3⟩ := List.nodup_append.mp nd
  have B : AtS S m := ⟨n2, fun p hp => A.get p (List.mem_append_right _ hp)⟩
  have ap : ∀ a ∈ m.map (·.1), a ∉ l.map (·.1) := fun a ha q => n3 a q a ha rfl
  have B' := T.other B ap
  refine ⟨⟨?_, fun p hp => ?_⟩, T.len, fun i h hi => T.fr i h fun q => hi (by rw [List.map_append]; exact List.mem_append_left _ q), fun a ha => ?_, T.nl⟩
  · rw [List.map_append]
    exact List.nodup_append.mpr ⟨T.at_.nd, n2, fun a ha b hb e => T.apart B ap b hb (by rw [← e]; exact ha)⟩
  · rcases List.mem_append.mp hp with h | h
    · exact T.at_.get p h
    · exact B'.get p h
  · rw [List.map_append] at ha ⊢
    rcases List.mem_append.mp ha with h | h
    · exact (T.fp a h).imp (List.mem_append_left _) id
    · exact .inl (List.mem_append_right _ h)
theorem Stp.beside {S S' : Sto} {m l' : Cs} (T : Stp S [] S' l') (A : AtS S m) : Stp S m S' (m ++ l') := by
  have A' : AtS S ([] ++ m) := A
  have T' := T.sub A'
  have B := T'.at_
  refine ⟨⟨?_, fun p hp => B.get p (List.mem_append.mpr (List.mem_append.mp hp).symm)⟩, T.len, fun i h hi => T.fr i h (fun q => by cases q), fun x hx => ?_, T.nl⟩
  · have := B.nd
    rw [List.map_append] at this ⊢
    obtain ⟨n1, n2, n3⟩ := List.nodup_append.mp this
    exact List.nodup_append.mpr ⟨n2, n1, fun a ha b hb e => n3 b hb a ha e.symm⟩
  · rw [List.map_append] at hx
    rcases List.mem_append.mp hx with h | h
    · exact .inl h
    · rcases T.fp x h with q | q
      · cases q
      · exact .inr q
/-! ### dicts as lists of pairs -/
section
variable {κ κ' α β : Type} [DecidableEq κ] [DecidableEq κ']
def agt : List (κ × α) → κ → Option α
  | [], _ => none
  | p :: l, k => if p.1 = k then some p.2 else agt l k
def ahas (l : List (κ × α)) (k : κ) : Bool := l.any fun p => decide (p.1 = k)
def apt (l : List (κ × α)) (k : κ) (v : α) : List (κ × α) := if ahas l k = true then l.map fun p => if p.1 = k then (p.1, v) else p else l ++ [(k, v)]
theorem agt_cons {p : κ × α} {l : List (κ × α)} {k : κ} : agt (p :: l) k = if p.1 = k then some p.2 else agt l k := rfl
theorem ahas_cons {p : κ × α} {l : List (κ × α)} {k : κ} : ahas (p :: l) k = (decide (p.1 = k) || ahas l k) := rfl
theorem agt_none {l : List (κ × α)} {k : κ} : agt l k = none ↔ ahas l k = false := by
  induction l with
  | nil => simp [agt, ahas]
  | cons p l ih =>
    rw [agt_cons, ahas_cons]
    by_cases q : p.1 = k
    · simp [q]
    · rw [if_neg q, ih]
      simp [q]
theorem agt_app {l m : List (κ × α)} {k : κ} : agt (l ++ m) k = (agt l k).or (agt m k) := by
  induction l with
  | nil => simp [agt]
  | cons p l ih =>
    rw [List.cons_append, agt_cons, agt_cons]
    by_cases q : p.1 = k
    · simp [q]
    · rw [if_neg q, if_neg q, ih]
theorem agt_apt {l : List (κ × α)} {k k' : κ} {v : α} : agt (apt l k v) k' = if k = k' then some v else agt l k' := by
  unfold apt
  by_cases q : ahas l k = true
  · rw [if_pos q]
    have key : ∀ l : List (κ × α), agt (l.map fun p => if p.1 = k then (p.1, v) else p) k' = if k = k' then (if ahas l k = true then some v else none) else agt l k' := fun l => by
      induction l with
      | nil => simp [agt, ahas]
      | cons p l ih =>
        rw [List.map_cons, agt_cons, agt_cons, ahas_cons, ih]
        by_cases z : p.1 = k
        · by_cases z2 : k = k'
          · simp [z, z2]
          · have : ¬ p.1 = k' := fun e => z2 (z.symm.trans e)
            rw [if_pos z]
            simp [z2, this]
        · rw [if_neg z]
          by_cases z2 : k = k'
          · subst z2
            simp [z]
          · simp [z2]
    rw [key l, q]
    simp
  · rw [if_neg q, agt_app]
    by_cases z : k = k'
    · subst z
      rw [if_pos rfl, agt_none.mpr (Bool.eq_false_iff.mpr q)]
      simp [agt]
    · rw [if_neg z]
      simp [agt, z]
theorem apt_len {l : List (κ × α)} {k : κ} {v : α} : (apt l k v).length ≤ l.length + 1 := by
  unfold apt
  split
  · rw [List.length_map]
    omega
  · rw [List.length_append] <;> simp
theorem apt_keys {l : List (κ × α)} {k : κ} {v : α} (h : ahas l k = true) : (apt l k v).map (·.1) = l.map (·.1) := by
  unfold apt
  rw [if_pos h, List.map_map]
  refine List.map_congr_left fun p _ => ?_
  show (if p.1 = k then (p.1, v) else p).1 = p.1
  split <;> rfl
theorem ahas_of {l : List (κ × α)} {k : κ} (h : k ∈ l.map (·.1)) : ahas l k = true := by
  obtain ⟨p, hp, rfl⟩ := List.mem_map.mp h
  exact List.any_eq_true.mpr ⟨p, hp, decide_eq_true rfl⟩
theorem ahas_iff {l : List (κ × α)} {k : κ} : ahas l k = true ↔ k ∈ l.map (·.1) := by
  refine ⟨fun h => ?_, ahas_of⟩
  obtain ⟨p, hp, e⟩ := List.any_eq_true.mp h
  exact List.mem_map.mpr ⟨p, hp, of_decide_eq_true e⟩
theorem apt_mem {P : κ × α → Prop} {l : List (κ × α)} {k : κ} {v : α} (h : ∀ p ∈ l, P p) (hv : P (k, v)) : ∀ p ∈ apt l k v, P p := by
  intro p hp
  unfold apt at hp
  split at hp
  · obtain ⟨q, hq, rfl⟩ := List.mem_map.mp hp
    split
    · rename_i e
      rw [e]
      exact hv
    · exact h q hq
  · rcases List.mem_append.mp hp with e | e
    · exact h p e
    · rw [List.mem_singleton.mp e]
      exact hv
theorem agt_mem {l : List (κ × α)} {k : κ} {v : α} (h : agt l k = some v) : (k, v) ∈ l := by
  induction l with
  | nil => cases h
  | cons p l ih =>
    unfold agt at h
    split at h
    · rename_i e
      cases h
      rw [← e]
      exact List.mem_cons_self
    · exact List.mem_cons_of_mem _ (ih h)
theorem apt_nd {l : List (κ × α)} {k : κ} {v : α} (h : (l.map (·.1)).Nodup) : ((apt l k v).map (·.1)).Nodup := by
  by_cases q : ahas l k = true
  · rw [apt_keys q]
    exact h
  · unfold apt
    rw [if_neg q, List.map_append]
    refine List.nodup_append.mpr ⟨h, List.nodup_cons.mpr ⟨List.not_mem_nil, List.nodup_nil⟩, fun a ha b hb e => ?_⟩
    rw [List.mem_singleton.mp hb] at e
    have e : a = k := e
    rw [e] at ha
    exact q (ahas_of ha)
variable {e : κ → κ'} {f : α → DV}
end
abbrev Pl := Str × Nat
abbrev kS (x : Str) : Key := .inr x
abbrev kN (n : Nat) : Key := .inl (n : Int)
abbrev kP (p : Pl) : List Key := [.inr p.1, .inl (p.2 : Int)]
def dkS {α : Type} (f : α → DV) (l : List (Str × α)) : Cell := .dik (l.map fun p => kS p.1) (l.map fun p => f p.2)
def dkN {α : Type} (f : α → DV) (l : List (Nat × α)) : Cell := .dik (l.map fun p => kN p.1) (l.map fun p => f p.2)
def dkP {α : Type} (f : α → DV) (l : List (Pl × α)) : Cell := .dit (l.map fun p => kP p.1) (l.map fun p => f p.2)
abbrev plD (p : Pl) : DV := .tup [.str p.1, .int (p.2 : Nat)]
section
variable {α : Type} {f : α → DV} {S : Sto} {n : Nat}
end
end Dn

/-! the house in plain Lean -/
namespace Dn
open PySem PySem.Spec PyProof.Rows L2
abbrev Thing := Str × Int × Bool
abbrev thD (c : Thing) : DV := .tup [.str c.1, .int c.2.1, .bl c.2.2]
structure Hst where
  rows : List PRow
  cells : List Thing
  shelves : List Thing
  keeps : List (Nat × List Str)
  beg : List Str
  coming : List Int
structure Pg where
  row : Nat
  done : Nat
  hears : Nat
  says : Nat
  held : List (Str × Int)
  turned : List (Pl × Int)
inductive Dd where
  | page (r : Nat) | box (x : Str) (v : Int) | turn (p : Pl) (v : Int) | face | home (p : Pl) (v : Int)
inductive Ph where
  | up (k : Nat) | go (r : Nat) | keep (r : Nat) (l : List Dd) (k : Nat) | rest
structure Hs where
  dust : Int
  held : List (Str × Int)
  log : List (Pl × Int)
  done : Nat
  hears : Nat
  says : Nat
  ph : Ph
  home : List (Pl × Int)
  p0 : Pg
  p1 : Pg
  front : Bool
  fin : Option Int
  bn : List (Nat × Int)
  rent : Bool
def Hst.twL (Z : Hst) : List (Str × Bool) := Z.shelves.foldl (fun l c => apt l c.1 c.2.2) (Z.cells.foldl (fun l c => apt l c.1 c.2.2) [])
def Hst.szL (Z : Hst) : List (Str × Int) := Z.shelves.foldl (fun l c => apt l c.1 c.2.1) []
def shelfL (l : List (Pl × Int)) (c : Thing) : List (Pl × Int) := (List.range c.2.1.toNat).foldl (fun l k => apt l (c.1, k) 0) l
def Hst.homeL (Z : Hst) : List (Pl × Int) := Z.shelves.foldl shelfL (Z.cells.foldl (fun l c => apt l (c.1, 0) c.2.1) [])
def Hst.homeK (Z : Hst) : List Pl := Z.homeL.map (·.1)
def Hst.keepsL (Z : Hst) : List (Nat × List Str) := Z.keeps.foldl (fun l k => apt l k.1 k.2) []
def Hst.twin (Z : Hst) (n : Str) : Bool := (agt Z.twL n).getD false
def Hst.size (Z : Hst) (n : Str) : Int := (agt Z.szL n).getD 1
def Hs.worth (h : Hs) : Atm → Int
  | .n i => i
  | .x s => (agt h.held s).getD h.dust
def Hs.place (Z : Hst) (h : Hs) (n : Str) (a : Atm) : Nat := (h.worth a % Z.size n).toNat
def Hs.homeV (h : Hs) (p : Pl) : Int := (agt h.home p).getD 0
def Hs.seen (Z : Hst) (h : Hs) (p : Pl) : Int := if Z.twin p.1 = true then (agt h.log p).getD (h.homeV p) else h.homeV p
def Hs.written (Z : Hst) (h : Hs) (p : Pl) (v : Int) : Hs := if Z.twin p.1 = true then { h with log := apt h.log p v } else { h with home := apt h.home p v }
def Hs.out (h : Hs) (x : Str) (v : Int) : Hs := { h with held := apt h.held x v }
def Hs.say (h : Hs) (v : Int) : Hs := match agt h.bn h.says with
  | none => { h with bn := apt h.bn h.says v, says := h.says + 1 }
  | some u => { h with rent := h.rent || !decide (u = v), says := h.says + 1 }
def Hs.row (Z : Hst) (h : Hs) : PRow → Hs
  | .say a => h.say (h.worth a)
  | .copy x a => h.out x (h.worth a)
  | .op x s a b => h.out x (valS s (h.worth a) (h.worth b))
  | .load x c => h.out x (h.seen Z (c, 0))
  | .store c a => h.written Z (c, 0) (h.worth a)
  | .take x s a => h.out x (h.seen Z (s, h.place Z s a))
  | .lay s a b => h.written Z (s, h.place Z s a) (h.worth b)
  | .hear x => { h.out x (Z.coming.getD h.hears 0) with hears := h.hears + 1 }
  | .ifr _ _ => h
  | .go _ => h
  | .endr a => { h with fin := some (h.worth a) }
def Hs.next (h : Hs) (i : Nat) : PRow → Nat
  | .ifr a n => if h.worth a = 0 then i + 1 else n
  | .go n => n
  | _ => i + 1
def Hs.page (h : Hs) (b : Bool) : Pg := if b = true then h.p1 else h.p0
def Hs.back (h : Hs) : Pg := h.page (!h.front)
def Hs.setBack (h : Hs) (p : Pg) : Hs := if h.front = true then { h with p0 := p } else { h with p1 := p }
def Hs.deed (h : Hs) : Dd → Hs
  | .page r => h.setBack ⟨r, h.done, h.hears, h.says, [], []⟩
  | .box x v => h.setBack { h.back with held := h.back.held ++ [(x, v)] }
  | .turn p v => h.setBack { h.back with turned := h.back.turned ++ [(p, v)] }
  | .face => { h with front := !h.front }
  | .home p v => { h with home := apt h.home p v }
def Hs.small (h : Hs) (r : Nat) (bs : List Str) : List Dd := Dd.page r :: (bs.map fun x => Dd.box x (h.worth (.x x))) ++ (h.log.map fun p => Dd.turn p.1 p.2) ++ [Dd.face] ++ h.log.map fun p => Dd.home p.1 p.2
def dictL (l : List (Str × Int)) : List (Str × Int) := l.foldl (fun l q => apt l q.1 q.2) []
def Hs.comeUp (h : Hs) (p : Pg) : Hs := { h with held := dictL p.held, done := p.done, hears := p.hears, says := p.says }
def isEnd : PRow → Bool
  | .endr _ => true
  | _ => false
/-- behind a row -/
def Hs.come (Z : Hst) (h : Hs) (t : Nat) : Hs := match agt Z.keepsL t with
  | none => { h with ph := .go t }
  | some bs => { h with ph := .keep t (h.small t bs) 0 }
def Hs.step (Z : Hst) (h : Hs) : Hs := match h.ph with
  | .rest => h
  | .up k => (match (h.page h.front).turned[k]? with
    | some q => { h with home := apt h.home q.1 q.2, ph := .up (k + 1) }
    | none => { h.comeUp (h.page h.front) with ph := .go (h.page h.front).row })
  | .go i => (match Z.rows[i]? with
    | none => h
    | some r => if isEnd r = true then { Hs.row Z { h with done := h.done + 1 } r with ph := .rest } else (Hs.row Z { h with done := h.done + 1 } r).come Z (h.next i r))
  | .keep r l k => (match l[k]? with
    | none => h
    | some d => if k + 1 < l.length then { h.deed d with ph := .keep r l (k + 1) } else { h.deed d with log := [], ph := .go r })
def pg0 (b : List Str) : Pg := ⟨0, 0, 0, 0, b.map fun x => (x, 0), []⟩
def Hst.init (Z : Hst) : Hs := ⟨0, [], [], 0, 0, 0, .up 0, Z.homeL, pg0 Z.beg, pg0 [], false, none, [], false⟩
/-! ### what is in order -/
def Hst.IsP (Z : Hst) (p : Pl) : Prop := p ∈ Z.homeK
structure Hst.CellOk (Z : Hst) (c : Str) : Prop where
  tw : ahas Z.twL c = true
  pl : Z.IsP (c, 0)
structure Hst.ShelfOk (Z : Hst) (s : Str) : Prop where
  tw : ahas Z.twL s = true
  sz : agt Z.szL s = some (Z.size s)
  z0 : 0 < Z.size s
  z1 : Z.size s ≤ 1000
  pl : ∀ k : Nat, (k : Int) < Z.size s → Z.IsP (s, k)
def Hst.RowOk (Z : Hst) : PRow → Prop
  | .say a => a.Ok
  | .copy _ a => a.Ok
  | .op _ s a b => isSign s ∧ a.Ok ∧ b.Ok
  | .load _ c => Z.CellOk c
  | .store c a => Z.CellOk c ∧ a.Ok
  | .take _ s a => Z.ShelfOk s ∧ a.Ok
  | .lay s a b => Z.ShelfOk s ∧ a.Ok ∧ b.Ok
  | .hear _ => True
  | .ifr a _ => a.Ok
  | .go _ => True
  | .endr a => a.Ok
structure Hst.Ok (Z : Hst) : Prop where
  r : ∀ r ∈ Z.rows, Z.RowOk r
  led : ∀ (i : Nat) (r : PRow), Z.rows[i]? = some r → ∀ t ∈ r.led i, t < Z.rows.length
  n0 : 0 < Z.rows.length
  n1 : Z.rows.length ≤ 1000
  co : ∀ v ∈ Z.coming, In40 v
  cz : Z.coming.length ≤ 1000
  ks : ∀ k ∈ Z.keeps, k.2.length ≤ 1000
  kz : Z.keeps.length ≤ 1000
  bz : Z.beg.length ≤ 1000
  hm : ∀ p ∈ Z.homeL, In40 p.2
  hz : Z.homeL.length ≤ 1000
def vOk {κ : Type} (l : List (κ × Int)) : Prop := ∀ p ∈ l, In40 p.2
structure Pg.Ok (Z : Hst) (N : Nat) (p : Pg) : Prop where
  h : vOk p.held
  t : vOk p.turned
  tp : ∀ q ∈ p.turned, Z.IsP q.1
  r : p.row < Z.rows.length
  hz : p.held.length ≤ N
  tz : p.turned.length ≤ N
def Dd.Ok (Z : Hst) : Dd → Prop
  | .page r => r < Z.rows.length
  | .box _ v => In40 v
  | .turn p v => Z.IsP p ∧ In40 v
  | .face => True
  | .home p v => Z.IsP p ∧ In40 v
def Ph.Ok (Z : Hst) (N : Nat) : Ph → Prop
  | .up _ => True
  | .go r => r < Z.rows.length
  | .keep r l k => r < Z.rows.length ∧ k < l.length ∧ l.length ≤ 2 * N + 1002 ∧ ∀ d ∈ l, d.Ok Z
  | .rest => True
structure Hs.Ok (Z : Hst) (N : Nat) (h : Hs) : Prop where
  du : In40 h.dust
  he : vOk h.held
  lo : vOk h.log
  lp : ∀ q ∈ h.log, Z.IsP q.1
  ln : (h.log.map (·.1)).Nodup
  hm : vOk h.home
  hk : h.home.map (·.1) = Z.homeK
  p0 : h.p0.Ok Z N
  p1 : h.p1.Ok Z N
  ph : h.ph.Ok Z N
  hz : h.held.length ≤ N
  lz : h.log.length ≤ N
  bz : h.bn.length ≤ N
  bv : vOk h.bn
theorem Pg.Ok.mono {Z : Hst} {N M : Nat} {p : Pg} (O : p.Ok Z N) (h : N ≤ M) : p.Ok Z M := ⟨O.h, O.t, O.tp, O.r, Nat.le_trans O.hz h, Nat.le_trans O.tz h⟩
theorem Ph.Ok.mono {Z : Hst} {N M : Nat} {p : Ph} (O : p.Ok Z N) (h : N ≤ M) : p.Ok Z M := by
  cases p with
  | up k => exact trivial
  | go r => exact O
  | keep r l k =>
    obtain ⟨a, b, c, d⟩ := O
    exact ⟨a, b, by omega, d⟩
  | rest => exact trivial
theorem Hs.Ok.mono {Z : Hst} {N M : Nat} {h : Hs} (O : h.Ok Z N) (hm : N ≤ M) : h.Ok Z M :=
  ⟨O.du, O.he, O.lo, O.lp, O.ln, O.hm, O.hk, O.p0.mono hm, O.p1.mono hm, O.ph.mono hm, Nat.le_trans O.hz hm, Nat.le_trans O.lz hm, Nat.le_trans O.bz hm, O.bv⟩
theorem vOk_get {κ : Type} [DecidableEq κ] {l : List (κ × Int)} (h : vOk l) {k : κ} {d : Int} (hd : In40 d) : In40 ((agt l k).getD d) := by
  cases e : agt l k with
  | none => exact hd
  | some v => exact h _ (agt_mem e)
theorem vOk_apt {κ : Type} [DecidableEq κ] {l : List (κ × Int)} (h : vOk l) {k : κ} {v : Int} (hv : In40 v) : vOk (apt l k v) := apt_mem (P := fun p => In40 p.2) h hv
theorem isP_apt {Z : Hst} {l : List (Pl × Int)} (h : ∀ q ∈ l, Z.IsP q.1) {p : Pl} {v : Int} (hp : Z.IsP p) : ∀ q ∈ apt l p v, Z.IsP q.1 := apt_mem (P := fun q => Z.IsP q.1) h hp
section
variable {Z : Hst} {N : Nat} {h : Hs}
theorem Hs.Ok.worth (O : h.Ok Z N) {a : Atm} (ha : a.Ok) : In40 (h.worth a) := by
  cases a with
  | n i => exact ha
  | x s => exact vOk_get O.he O.du
theorem Hs.Ok.homeV (O : h.Ok Z N) (p : Pl) : In40 (h.homeV p) := vOk_get O.hm in0
theorem Hs.Ok.home (O : h.Ok Z N) {p : Pl} (hp : Z.IsP p) : agt h.home p = some (h.homeV p) := by
  unfold Hs.homeV
  cases e : agt h.home p with
  | some v => rfl
  | none =>
    have := agt_none.mp e
    rw [ahas_of (by rw [O.hk]; exact hp)] at this
    cases this
theorem Hs.Ok.seen (O : h.Ok Z N) (p : Pl) : In40 (h.seen Z p) := by
  unfold Hs.seen
  split
  · exact vOk_get O.lo (O.homeV p)
  · exact O.homeV p
theorem place_lt (O : Z.ShelfOk s) {a : Atm} : ((h.place Z s a : Nat) : Int) = h.worth a % Z.size s ∧ ((h.place Z s a : Nat) : Int) < Z.size s := by
  have z0 := O.z0
  have h1 := Int.emod_nonneg (h.worth a) (b := Z.size s) (by omega)
  have h2 := Int.emod_lt_of_pos (h.worth a) O.z0
  unfold Hs.place
  omega
theorem hk_apt (O : h.Ok Z N) {p : Pl} {v : Int} (hp : Z.IsP p) : (apt h.home p v).map (·.1) = Z.homeK := by
  rw [apt_keys (ahas_of (by rw [O.hk]; exact hp))]
  exact O.hk
theorem Hs.Ok.written (O : h.Ok Z N) {p : Pl} {v : Int} (hp : Z.IsP p) (hv : In40 v) : (h.written Z p v).Ok Z (N + 1) := by
  have O' := O.mono (Nat.le_succ N)
  have lz := O.lz
  unfold Hs.written
  split
  · exact ⟨O'.du, O'.he, vOk_apt O.lo hv, isP_apt O.lp hp, apt_nd O.ln, O'.hm, O'.hk, O'.p0, O'.p1, O'.ph, O'.hz, Nat.le_trans apt_len (by omega), O'.bz, O'.bv⟩
  · exact ⟨O'.du, O'.he, O'.lo, O'.lp, O'.ln, vOk_apt O.hm hv, hk_apt O hp, O'.p0, O'.p1, O'.ph, O'.hz, O'.lz, O'.bz, O'.bv⟩
theorem Hs.Ok.out (O : h.Ok Z N) {x : Str} {v : Int} (hv : In40 v) : (h.out x v).Ok Z (N + 1) := by
  have O' := O.mono (Nat.le_succ N)
  have hz := O.hz
  exact ⟨O'.du, vOk_apt O.he hv, O'.lo, O'.lp, O'.ln, O'.hm, O'.hk, O'.p0, O'.p1, O'.ph, Nat.le_trans apt_len (by omega), O'.lz, O'.bz, O'.bv⟩
theorem Hs.Ok.say (O : h.Ok Z N) {v : Int} (hv : In40 v) : (h.say v).Ok Z (N + 1) := by
  have O' := O.mono (Nat.le_succ N)
  have bz := O.bz
  unfold Hs.say
  split
  · exact ⟨O'.du, O'.he, O'.lo, O'.lp, O'.ln, O'.hm, O'.hk, O'.p0, O'.p1, O'.ph, O'.hz, O'.lz, Nat.le_trans apt_len (by omega), vOk_apt O.bv hv⟩
  · exact ⟨O'.du, O'.he, O'.lo, O'.lp, O'.ln, O'.hm, O'.hk, O'.p0, O'.p1, O'.ph, O'.hz, O'.lz, O'.bz, O'.bv⟩
/-- fields of which nothing is asked -/
theorem Hs.Ok.num (O : h.Ok Z N) (a b c : Nat) (f : Option Int) : ({ h with done := a, hears := b, says := c, fin := f } : Hs).Ok Z N := ⟨O.du, O.he, O.lo, O.lp, O.ln, O.hm, O.hk, O.p0, O.p1, O.ph, O.hz, O.lz, O.bz, O.bv⟩
theorem Hs.Ok.inPh (O : h.Ok Z N) {p : Ph} (hp : p.Ok Z N) : ({ h with ph := p } : Hs).Ok Z N := ⟨O.du, O.he, O.lo, O.lp, O.ln, O.hm, O.hk, O.p0, O.p1, hp, O.hz, O.lz, O.bz, O.bv⟩
theorem Hs.Ok.row (O : h.Ok Z N) (K : Z.Ok) {r : PRow} (hr : Z.RowOk r) : (h.row Z r).Ok Z (N + 1) := by
  cases r with
  | say a => exact O.say (O.worth hr)
  | copy x a => exact O.out (O.worth hr)
  | op x s a b => exact O.out (valS_40 (O.worth hr.2.1) (O.worth hr.2.2))
  | load x c => exact O.out (O.seen _)
  | store c a => exact O.written hr.1.pl (O.worth hr.2)
  | take x s a => exact O.out (O.seen _)
  | lay s a b => exact O.written (hr.1.pl _ (place_lt hr.1).2) (O.worth hr.2.2)
  | hear x =>
    have hv : In40 (Z.coming.getD h.hears 0) := by
      rw [List.getD_eq_getElem?_getD]
      cases e : Z.coming[h.hears]? with
      | none => exact in0
      | some v => exact K.co v (List.mem_of_getElem? e)
    exact (O.out hv).num h.done (h.hears + 1) h.says h.fin
  | ifr a n => exact O.mono (Nat.le_succ N)
  | go n => exact O.mono (Nat.le_succ N)
  | endr a => exact (O.mono (Nat.le_succ N)).num h.done h.hears h.says _
theorem Hs.Ok.page (O : h.Ok Z N) (b : Bool) : (h.page b).Ok Z N := by
  cases b
  · exact O.p0
  · exact O.p1
theorem Hs.Ok.setBack (O : h.Ok Z N) {p : Pg} (hp : p.Ok Z N) : (h.setBack p).Ok Z N := by
  unfold Hs.setBack
  split
  · exact ⟨O.du, O.he, O.lo, O.lp, O.ln, O.hm, O.hk, hp, O.p1, O.ph, O.hz, O.lz, O.bz, O.bv⟩
  · exact ⟨O.du, O.he, O.lo, O.lp, O.ln, O.hm, O.hk, O.p0, hp, O.ph, O.hz, O.lz, O.bz, O.bv⟩
theorem Hs.Ok.deed (O : h.Ok Z N) {d : Dd} (hd : d.Ok Z) : (h.deed d).Ok Z (N + 1) := by
  have O' := O.mono (Nat.le_succ N)
  have B := O.page (!h.front)
  have hz : h.back.held.length ≤ N := B.hz
  have tz : h.back.turned.length ≤ N := B.tz
  cases d with
  | page r => exact O'.setBack ⟨(fun p hp => by cases hp), (fun p hp => by cases hp), (fun p hp => by cases hp), hd, Nat.zero_le _, Nat.zero_le _⟩
  | box x v => exact O'.setBack ⟨fun p hp => (List.mem_append.mp hp).elim (B.h p) fun e => by rw [List.mem_singleton.mp e]; exact hd, B.t, B.tp, B.r, by rw [List.length_append, List.length_singleton]; omega, Nat.le_succ_of_le tz⟩
  | turn p v => exact O'.setBack ⟨B.h, fun q hq => (List.mem_append.mp hq).elim (B.t q) fun e => by rw [List.mem_singleton.mp e]; exact hd.2, fun q hq => (List.mem_append.mp hq).elim (B.tp q) fun e => by rw [List.mem_singleton.mp e]; exact hd.1, B.r, Nat.le_succ_of_le hz, by rw [List.length_append, List.length_singleton]; omega⟩
  | face => exact ⟨O'.du, O'.he, O'.lo, O'.lp, O'.ln, O'.hm, O'.hk, O'.p0, O'.p1, O'.ph, O'.hz, O'.lz, O'.bz, O'.bv⟩
  | home p v => exact ⟨O'.du, O'.he, O'.lo, O'.lp, O'.ln, vOk_apt O.hm hd.2, hk_apt O hd.1, O'.p0, O'.p1, O'.ph, O'.hz, O'.lz, O'.bz, O'.bv⟩
theorem dictL_len : ∀ (l m : List (Str × Int)), (l.foldl (fun l q => apt l q.1 q.2) m).length ≤ m.length + l.length
  | [], m => Nat.le_refl _
  | q :: l, m => by
    have := dictL_len l (apt m q.1 q.2)
    have := apt_len (l := m) (k := q.1) (v := q.2)
    rw [List.foldl_cons, List.length_cons]
    omega
theorem dictL_ok : ∀ (l m : List (Str × Int)), vOk l → vOk m → vOk (l.foldl (fun l q => apt l q.1 q.2) m)
  | [], m, _, hm => hm
  | q :: l, m, hl, hm => dictL_ok l (apt m q.1 q.2) (fun p hp => hl p (List.mem_cons_of_mem _ hp)) (vOk_apt hm (hl q List.mem_cons_self))
theorem keepsL_mem (K : Z.Ok) {t : Nat} {bs : List Str} (e : agt Z.keepsL t = some bs) : (t, bs) ∈ Z.keeps := by
  have key : ∀ (l m : List (Nat × List Str)), (∀ p ∈ l.foldl (fun l k => apt l k.1 k.2) m, p ∈ l ∨ p ∈ m) := fun l => by
    induction l with
    | nil => intro m p hp; exact .inr hp
    | cons k l ih =>
      intro m p hp
      rcases ih _ p hp with h | h
      · exact .inl (List.mem_cons_of_mem _ h)
      · have := apt_mem (P := fun p => p = k ∨ p ∈ m) (l := m) (k := k.1) (v := k.2) (fun q hq => .inr hq) (.inl rfl) p h
        rcases this with e | e
        · rw [e]; exact .inl List.mem_cons_self
        · exact .inr e
  rcases key Z.keeps [] _ (agt_mem e) with h | h
  · exact h
  · cases h
theorem Hs.Ok.small (O : h.Ok Z N) {r : Nat} (hr : r < Z.rows.length) {bs : List Str} : ∀ d ∈ h.small r bs, d.Ok Z := by
  intro d hd
  unfold Hs.small at hd
  rcases List.mem_append.mp hd with hd | hd
  · rcases List.mem_append.mp hd with hd | hd
    · rcases List.mem_append.mp hd with hd | hd
      · rcases List.mem_cons.mp hd with e | hd
        · rw [e]; exact hr
        · obtain ⟨x, _, rfl⟩ := List.mem_map.mp hd
          exact O.worth (a := .x x) trivial
      · obtain ⟨p, hp, rfl⟩ := List.mem_map.mp hd
        exact ⟨O.lp p hp, O.lo p hp⟩
    · rw [List.mem_singleton.mp hd]; exact trivial
  · obtain ⟨p, hp, rfl⟩ := List.mem_map.mp hd
    exact ⟨O.lp p hp, O.lo p hp⟩
theorem small_len {r : Nat} {bs : List Str} : (h.small r bs).length = bs.length + 2 * h.log.length + 2 := by
  unfold Hs.small
  simp only [List.length_append, List.length_cons, List.length_map, List.length_nil]
  omega
theorem next_led {i : Nat} {r : PRow} (he : isEnd r = false) : h.next i r ∈ r.led i := by
  cases r with
  | ifr a n =>
    show (if h.worth a = 0 then i + 1 else n) ∈ [n, i + 1]
    split
    · exact List.mem_cons_of_mem _ List.mem_cons_self
    · exact List.mem_cons_self
  | endr a => cases he
  | _ => exact List.mem_cons_self
theorem Hs.Ok.come (O : h.Ok Z N) (K : Z.Ok) {t : Nat} (ht : t < Z.rows.length) : (h.come Z t).Ok Z N := by
  unfold Hs.come
  split
  · exact O.inPh (p := .go t) ht
  · rename_i bs e
    have := K.ks _ (keepsL_mem K e)
    have := O.lz
    have l := small_len (h := h) (r := t) (bs := bs)
    exact O.inPh (p := .keep t _ 0) ⟨ht, by omega, by simp only at *; omega, O.small ht⟩
theorem Hs.Ok.step (O : h.Ok Z N) (K : Z.Ok) : (h.step Z).Ok Z (N + 1) := by
  have O' := O.mono (Nat.le_succ N)
  unfold Hs.step
  split
  · exact O'
  · rename_i k e
    have B := O.page h.front
    split
    · rename_i q hq
      have hm := List.mem_of_getElem? hq
      exact ⟨O'.du, O'.he, O'.lo, O'.lp, O'.ln, vOk_apt O.hm (B.t q hm), hk_apt O (B.tp q hm), O'.p0, O'.p1, trivial, O'.hz, O'.lz, O'.bz, O'.bv⟩
    · refine ⟨O'.du, dictL_ok _ _ B.h (fun p hp => by cases hp), O'.lo, O'.lp, O'.ln, O'.hm, O'.hk, O'.p0, O'.p1, B.r, ?_, O'.lz, O'.bz, O'.bv⟩
      have := dictL_len (h.page h.front).held []
      have := B.hz
      rw [List.length_nil] at *
      show (dictL (h.page h.front).held).length ≤ N + 1
      unfold dictL
      omega
  · rename_i i e
    split
    · exact O'
    · rename_i r hr
      have R := (O.num (h.done + 1) h.hears h.says h.fin).row K (K.r r (List.mem_of_getElem? hr))
      split
      · exact R.inPh (p := .rest) trivial
      · rename_i he
        exact R.come K (K.led i r hr _ (next_led (Bool.eq_false_iff.mpr he)))
  · rename_i r l k e
    have hp := O.ph
    rw [e] at hp
    obtain ⟨h1, h2, h3, h4⟩ := hp
    split
    · exact O'
    · rename_i d hd
      have D := O.deed (h4 d (List.mem_of_getElem? hd))
      split
      · rename_i q
        exact D.inPh (p := .keep r l (k + 1)) ⟨h1, q, by omega, h4⟩
      · exact ⟨D.du, D.he, (fun p hp => by cases hp), (fun p hp => by cases hp), List.nodup_nil, D.hm, D.hk, D.p0, D.p1, h1, D.hz, Nat.zero_le _, D.bz, D.bv⟩
theorem step_go {i : Nat} {r : PRow} (hp : h.ph = .go i) (hr : Z.rows[i]? = some r) : h.step Z = if isEnd r = true then { Hs.row Z { h with done := h.done + 1 } r with ph := .rest } else (Hs.row Z { h with done := h.done + 1 } r).come Z (h.next i r) := by
  unfold Hs.step
  split
  · rename_i e; rw [hp] at e; cases e
  · rename_i e; rw [hp] at e; cases e
  · rename_i e; rw [hp] at e; cases e
    rw [hr]
  · rename_i e; rw [hp] at e; cases e
theorem step_up {k : Nat} (hp : h.ph = .up k) : h.step Z = match (h.page h.front).turned[k]? with
    | some q => { h with home := apt h.home q.1 q.2, ph := .up (k + 1) }
    | none => { h.comeUp (h.page h.front) with ph := .go (h.page h.front).row } := by
  unfold Hs.step
  split
  · rename_i e; rw [hp] at e; cases e
  · rename_i e; rw [hp] at e; cases e
    rfl
  · rename_i e; rw [hp] at e; cases e
  · rename_i e; rw [hp] at e; cases e
theorem step_keep {r k : Nat} {l : List Dd} {d : Dd} (hp : h.ph = .keep r l k) (hd : l[k]? = some d) : h.step Z = if k + 1 < l.length then { h.deed d with ph := .keep r l (k + 1) } else { h.deed d with log := [], ph := .go r } := by
  unfold Hs.step
  split
  · rename_i e; rw [hp] at e; cases e
  · rename_i e; rw [hp] at e; cases e
  · rename_i e; rw [hp] at e; cases e
  · rename_i e; rw [hp] at e; cases e
    rw [hd]
theorem step_rest (hp : h.ph = .rest) : h.step Z = h := by
  unfold Hs.step
  split
  · rfl
  · rename_i e; rw [hp] at e; cases e
  · rename_i e; rw [hp] at e; cases e
  · rename_i e; rw [hp] at e; cases e
/-! ### the hand's letters -/
structure Hs.Sy (h : Hs) : Prop where
  k : h.bn.map (·.1) = List.range h.bn.length
  s : h.says ≤ h.bn.length
  s0 : h.p0.says ≤ h.bn.length
  s1 : h.p1.says ≤ h.bn.length
def Hs.letters (h : Hs) : List Int := h.bn.map (·.2)
theorem agt_range {l : List (Nat × Int)} (hk : l.map (·.1) = List.range l.length) (i : Nat) : agt l i = (l[i]?).map (·.2) := by
  have key : ∀ (l : List (Nat × Int)) (a : Nat), l.map (·.1) = List.range' a l.length → ∀ i, agt l (a + i) = (l[i]?).map (·.2) := fun l => by
    induction l with
    | nil => intro a _ i; rfl
    | cons p l ih =>
      intro a hl i
      rw [List.map_cons, List.length_cons, List.range'_succ] at hl
      obtain ⟨h1, h2⟩ := List.cons.inj hl
      rw [agt_cons]
      cases i with
      | zero =>
        rw [if_pos (by rw [h1] <;> rfl)]
        rfl
      | succ i =>
        have h1 : p.1 = a := h1
        rw [if_neg (by omega), show a + (i + 1) = a + 1 + i by omega, ih (a + 1) h2 i]
        rfl
  have := key l 0 (by rw [hk, List.range_eq_range']) i
  rwa [Nat.zero_add] at this
theorem Hs.Sy.say (Y : h.Sy) (v : Int) : (h.say v).Sy ∧ h.bn.length ≤ (h.say v).bn.length := by
  obtain ⟨k, s, s0, s1⟩ := Y
  unfold Hs.say
  split
  · rename_i e
    rw [agt_range k] at e
    have hs : h.says = h.bn.length := by
      rcases Nat.lt_or_ge h.says h.bn.length with q | q
      · rw [List.getElem?_eq_getElem q] at e
        cases e
      · omega
    have hn : ahas h.bn h.says = false := by
      rw [← agt_none, agt_range k]
      exact e
    have ea : apt h.bn h.says v = h.bn ++ [(h.says, v)] := by
      unfold apt
      rw [if_neg (by rw [hn]; decide)]
    refine ⟨⟨?_, ?_, ?_, ?_⟩, ?_⟩
    · show (apt h.bn h.says v).map (·.1) = List.range (apt h.bn h.says v).length
      rw [ea, List.map_append, List.length_append, List.length_singleton, List.range_succ, k, hs]
      rfl
    · show h.says + 1 ≤ (apt h.bn h.says v).length
      rw [ea, List.length_append, List.length_singleton]
      omega
    · show h.p0.says ≤ (apt h.bn h.says v).length
      rw [ea, List.length_append, List.length_singleton]
      omega
    · show h.p1.says ≤ (apt h.bn h.says v).length
      rw [ea, List.length_append, List.length_singleton]
      omega
    · show h.bn.length ≤ (apt h.bn h.says v).length
      rw [ea, List.length_append, List.length_singleton]
      omega
  · rename_i u e
    rw [agt_range k] at e
    have hs : h.says < h.bn.length := by
      rcases Nat.lt_or_ge h.says h.bn.length with q | q
      · exact q
      · rw [List.getElem?_eq_none q] at e
        cases e
    exact ⟨⟨k, hs, s0, s1⟩, Nat.le_refl _⟩
theorem Hs.Sy.keep {h' : Hs} (Y : h.Sy) (a : h'.bn = h.bn) (b : h'.says = h.says) (c : h'.p0 = h.p0) (d : h'.p1 = h.p1) : h'.Sy := by
  obtain ⟨k, s, s0, s1⟩ := Y
  exact ⟨by rw [a]; exact k, by rw [a, b]; exact s, by rw [a, c]; exact s0, by rw [a, d]; exact s1⟩
theorem Hs.Sy.row (Y : h.Sy) (r : PRow) : (h.row Z r).Sy := by
  cases r with
  | say a => exact (Y.say _).1
  | store c a =>
    show (h.written Z _ _).Sy
    unfold Hs.written
    split <;> exact Y.keep rfl rfl rfl rfl
  | lay s a b =>
    show (h.written Z _ _).Sy
    unfold Hs.written
    split <;> exact Y.keep rfl rfl rfl rfl
  | _ => exact Y.keep rfl rfl rfl rfl
theorem Hs.Sy.setBack (Y : h.Sy) {p : Pg} (hp : p.says ≤ h.bn.length) : (h.setBack p).Sy := by
  unfold Hs.setBack
  split
  · exact ⟨Y.k, Y.s, hp, Y.s1⟩
  · exact ⟨Y.k, Y.s, Y.s0, hp⟩
theorem Hs.Sy.page (Y : h.Sy) (b : Bool) : (h.page b).says ≤ h.bn.length := by
  cases b
  · exact Y.s0
  · exact Y.s1
theorem Hs.Sy.deed (Y : h.Sy) (d : Dd) : (h.deed d).Sy := by
  cases d with
  | page r => exact Y.setBack (p := ⟨r, h.done, h.hears, h.says, [], []⟩) Y.s
  | box x v => exact Y.setBack (p := { h.back with held := h.back.held ++ [(x, v)] }) (Y.page (!h.front))
  | turn q v => exact Y.setBack (p := { h.back with turned := h.back.turned ++ [(q, v)] }) (Y.page (!h.front))
  | face => exact Y.keep rfl rfl rfl rfl
  | home p v => exact Y.keep rfl rfl rfl rfl
theorem Hs.Sy.step (Y : h.Sy) : (h.step Z).Sy := by
  unfold Hs.step
  split
  · exact Y
  · split
    · exact Y.keep rfl rfl rfl rfl
    · exact ⟨Y.k, Y.page h.front, Y.s0, Y.s1⟩
  · split
    · exact Y
    · rename_i r hr
      have R := Hs.Sy.row (Z := Z) (h := { h with done := h.done + 1 }) (Y.keep rfl rfl rfl rfl) r
      split
      · exact R.keep rfl rfl rfl rfl
      · unfold Hs.come
        split <;> exact R.keep rfl rfl rfl rfl
  · split
    · exact Y
    · rename_i d hd
      split <;> exact (Y.deed d).keep rfl rfl rfl rfl
end
end Dn

/-! the house in the store -/
namespace Dn
open PySem PySem.Spec PyProof.Rows L2
structure HL where
  o : Nat
  le : Nat
  ke : Nat
  co : Nat
  st : Nat
  ha : Nat
  he : Nat
  lo : Nat
  ph : Nat
  hm : Nat
  sz : Nat
  pg : Nat
  p0 : Nat
  p1 : Nat
  h0 : Nat
  t0 : Nat
  h1 : Nat
  t1 : Nat
  bn : Nat
abbrev intD : Int → DV := DV.int
abbrev blD : Bool → DV := DV.bl
abbrev bxD (l : List Str) : DV := .tup (l.map .str)
def Hst.PD (Z : Hst) : DV := .tup [.tup (Z.cells.map thD), .tup (Z.shelves.map thD), .tup (Z.rows.map PRow.d)]
def dikS {α : Type} (f : α → DV) (l : List (Str × α)) : DV := .dik .own (l.map fun p => kS p.1) (l.map fun p => f p.2)
def hsF (Z : Hst) (L : HL) (h : Hs) : List (Str × DV) :=
  [("program", Z.PD), ("leads", .loc L.le), ("twins", dikS blD Z.twL), ("sizes", dikS intD Z.szL), ("keeps", .loc L.ke), ("coming", .loc L.co), ("stays", .loc L.st), ("hand", .loc L.ha),
    ("dust", .int h.dust), ("held", .loc L.he), ("log", .loc L.lo), ("done", .int h.done), ("hears", .int h.hears), ("says", .int h.says), ("phase", .loc L.ph)]
def Dd.d : Dd → DV
  | .page r => .tup [.str "page", .int r]
  | .box x v => .tup [.str "box", .str x, .int v]
  | .turn p v => .tup [.str "turn", .str p.1, .int p.2, .int v]
  | .face => .tup [.str "face"]
  | .home p v => .tup [.str "home", .str p.1, .int p.2, .int v]
def phC : Ph → Cell
  | .up k => .ins "Up" [("passed", .int k)]
  | .go r => .ins "Going" [("line", .int r)]
  | .keep r l k => .ins "Keeping" [("line", .int r), ("steps", .lst .own (l.map Dd.d)), ("passed", .int k)]
  | .rest => .ins "Resting" []
def frN (b : Bool) : Nat := if b = true then 1 else 0
def stF (L : HL) (h : Hs) : List (Str × DV) := [("home", .loc L.hm), ("sizes", .loc L.sz), ("pages", .loc L.pg), ("front", .int (frN h.front : Nat)), ("final", optI h.fin)]
def headD (p : Pg) : DV := .tup [.int p.row, .int p.done, .int p.hears, .int p.says]
def pgF (p : Pg) (a b : Nat) : List (Str × DV) := [("head", headD p), ("held", .loc a), ("turned", .loc b)]
abbrev bvD (q : Str × Int) : DV := .tup [.str q.1, .int q.2]
abbrev tnD (q : Pl × Int) : DV := .tup [plD q.1, .int q.2]
def hnF (L : HL) (h : Hs) : List (Str × DV) := [("by_number", .loc L.bn), ("rent", .bl h.rent)]
def hsC (Z : Hst) (L : HL) (h : Hs) : Cs :=
  [(L.o, .ins "House" (hsF Z L h)), (L.le, .lst (leadsD Z.rows)), (L.ke, dkN bxD Z.keepsL), (L.co, .lst (Z.coming.map .int)), (L.st, .ins "Store" (stF L h)), (L.hm, dkP intD h.home), (L.sz, dkS intD Z.szL), (L.p0, .ins "Page" (pgF h.p0 L.h0 L.t0)), (L.h0, .lst (h.p0.held.map bvD)), (L.t0, .lst (h.p0.turned.map tnD)), (L.p1, .ins "Page" (pgF h.p1 L.h1 L.t1)), (L.h1, .lst (h.p1.held.map bvD)), (L.t1, .lst (h.p1.turned.map tnD)), (L.pg, .lst [.loc L.p0, .loc L.p1]), (L.ha, .ins "Hand" (hnF L h)), (L.bn, dkN intD h.bn), (L.he, dkS intD h.held), (L.lo, dkP intD h.log), (L.ph, phC h.ph)]
/-- a step of the house's part -/
abbrev HSt (Z : Hst) (S : Sto) (L : HL) (h : Hs) (S' : Sto) (L' : HL) (h' : Hs) : Prop := Stp S (hsC Z L h) S' (hsC Z L' h') ∧ L'.o = L.o
section
variable {Z : Hst} {S S' S1 : Sto} {L L' L1 : HL} {h h' h1 : Hs}
theorem HSt.trans (a : HSt Z S L h S1 L1 h1) (b : HSt Z S1 L1 h1 S' L' h') : HSt Z S L h S' L' h' := ⟨a.1.trans b.1, b.2.trans a.2⟩
theorem HSt.refl (A : AtS S (hsC Z L h)) : HSt Z S L h S L h := ⟨Stp.refl A, rfl⟩
variable (A : AtS S (hsC Z L h))
include A
end
section
variable {Z : Hst} {S : Sto} {L : HL} {h : Hs} (A : AtS S (hsC Z L h)) {p : Pg}
include A
end
end Dn

/-! list(range(j)) -/
namespace Dn
open PySem PySem.Spec PyProof.Rows L2
section
variable {X : Cx}
end
end Dn

/-! a house of a program in order -/
namespace Dn
open PySem PySem.Spec PyProof.Rows L2
section
variable {κ α β : Type} [DecidableEq κ]
theorem fold_apt_not (kf : β → κ) (vf : β → α) {p : κ} : ∀ (l : List β) (acc : List (κ × α)), (∀ c ∈ l, kf c ≠ p) → agt (l.foldl (fun a c => apt a (kf c) (vf c)) acc) p = agt acc p
  | [], acc, _ => rfl
  | c :: l, acc, h => by
    rw [List.foldl_cons, fold_apt_not kf vf l _ fun x hx => h x (List.mem_cons_of_mem _ hx), agt_apt, if_neg (h c List.mem_cons_self)]
theorem fold_apt_mem (kf : β → κ) (vf : β → α) : ∀ (l : List β) (acc : List (κ × α)), (l.map kf).Nodup → ∀ c ∈ l, agt (l.foldl (fun a c => apt a (kf c) (vf c)) acc) (kf c) = some (vf c)
  | [], acc, _, c, h => nomatch h
  | d :: l, acc, hn, c, h => by
    rw [List.map_cons, List.nodup_cons] at hn
    rw [List.foldl_cons]
    rcases List.mem_cons.mp h with e | h
    · subst e
      rw [fold_apt_not kf vf l _ fun x hx e => hn.1 (by rw [← e]; exact List.mem_map_of_mem hx), agt_apt, if_pos rfl]
    · exact fold_apt_mem kf vf l _ hn.2 c h
theorem fold_apt_all (kf : β → κ) (vf : β → α) {P : κ × α → Prop} : ∀ (l : List β) (acc : List (κ × α)), (∀ p ∈ acc, P p) → (∀ c ∈ l, P (kf c, vf c)) → ∀ p ∈ l.foldl (fun a c => apt a (kf c) (vf c)) acc, P p
  | [], acc, h, _, p, hp => h p hp
  | c :: l, acc, h, h2, p, hp => fold_apt_all kf vf l _ (apt_mem h (h2 c List.mem_cons_self)) (fun x hx => h2 x (List.mem_cons_of_mem _ hx)) p hp
theorem fold_apt_len (kf : β → κ) (vf : β → α) : ∀ (l : List β) (acc : List (κ × α)), (l.foldl (fun a c => apt a (kf c) (vf c)) acc).length ≤ acc.length + l.length
  | [], acc => Nat.le_refl _
  | c :: l, acc => by
    have := fold_apt_len kf vf l (apt acc (kf c) (vf c))
    have := apt_len (l := acc) (k := kf c) (v := vf c)
    rw [List.foldl_cons, List.length_cons]
    omega
theorem ahas_some {l : List (κ × α)} {k : κ} {v : α} (h : agt l k = some v) : ahas l k = true := by
  cases q : ahas l k with
  | true => rfl
  | false => rw [agt_none.mpr q] at h; cases h
end
theorem agt_shelfL (acc : List (Pl × Int)) (c : Thing) (p : Pl) : agt (shelfL acc c) p = if p.1 = c.1 ∧ p.2 < c.2.1.toNat then some 0 else agt acc p := by
  unfold shelfL
  generalize c.2.1.toNat = n
  induction n with
  | zero => rw [if_neg (by omega)]; rfl
  | succ n ih =>
    rw [List.range_succ, List.foldl_append, List.foldl_cons, List.foldl_nil, agt_apt, ih]
    by_cases q : (c.1, n) = p
    · rw [if_pos q, if_pos (by rw [← q]; exact ⟨rfl, Nat.lt_succ_self _⟩)]
    · rw [if_neg q]
      by_cases z : p.1 = c.1 ∧ p.2 < n
      · rw [if_pos z, if_pos ⟨z.1, by omega⟩]
      · rw [if_neg z, if_neg fun y => z ⟨y.1, by
          rcases Nat.lt_or_ge p.2 n with t | t
          · exact t
          · exact absurd (Prod.ext y.1.symm (show n = p.2 by omega)) q⟩]
theorem fold_shelf_not {p : Pl} : ∀ (l : List Thing) (acc : List (Pl × Int)), (∀ c ∈ l, c.1 ≠ p.1) → agt (l.foldl shelfL acc) p = agt acc p
  | [], acc, _ => rfl
  | c :: l, acc, h => by
    rw [List.foldl_cons, fold_shelf_not l _ fun x hx => h x (List.mem_cons_of_mem _ hx), agt_shelfL, if_neg fun z => h c List.mem_cons_self z.1.symm]
theorem fold_shelf_mem : ∀ (l : List Thing) (acc : List (Pl × Int)), (l.map (·.1)).Nodup → ∀ c ∈ l, ∀ k : Nat, k < c.2.1.toNat → agt (l.foldl shelfL acc) (c.1, k) = some 0
  | [], acc, _, c, h, _, _ => nomatch h
  | d :: l, acc, hn, c, h, k, hk => by
    rw [List.map_cons, List.nodup_cons] at hn
    rw [List.foldl_cons]
    rcases List.mem_cons.mp h with e | h
    · subst e
      rw [fold_shelf_not l _ fun x hx e => hn.1 (by rw [← e]; exact List.mem_map_of_mem hx), agt_shelfL, if_pos ⟨rfl, hk⟩]
    · exact fold_shelf_mem l _ hn.2 c h k hk
theorem shelfL_all {P : Pl × Int → Prop} (c : Thing) (acc : List (Pl × Int)) (h : ∀ p ∈ acc, P p) (h2 : ∀ k : Nat, k < c.2.1.toNat → P ((c.1, k), 0)) : ∀ p ∈ shelfL acc c, P p := by
  unfold shelfL
  exact fold_apt_all (fun k : Nat => ((c.1, k) : Pl)) (fun _ => (0 : Int)) _ acc h fun k hk => h2 k (List.mem_range.mp hk)
theorem fold_shelf_all {P : Pl × Int → Prop} : ∀ (l : List Thing) (acc : List (Pl × Int)), (∀ p ∈ acc, P p) → (∀ c ∈ l, ∀ k : Nat, k < c.2.1.toNat → P ((c.1, k), 0)) → ∀ p ∈ l.foldl shelfL acc, P p
  | [], acc, h, _ => h
  | c :: l, acc, h, h2 => fold_shelf_all l _ (shelfL_all c acc h (h2 c List.mem_cons_self)) fun x hx => h2 x (List.mem_cons_of_mem _ hx)
theorem fold_shelf_len (m : Nat) : ∀ (l : List Thing) (acc : List (Pl × Int)), (∀ c ∈ l, c.2.1.toNat ≤ m) → (l.foldl shelfL acc).length ≤ acc.length + m * l.length
  | [], acc, _ => by simp
  | c :: l, acc, h => by
    have h1 := fold_shelf_len m l (shelfL acc c) fun x hx => h x (List.mem_cons_of_mem _ hx)
    have h2 : (shelfL acc c).length ≤ acc.length + c.2.1.toNat := by
      have := fold_apt_len (fun k : Nat => ((c.1, k) : Pl)) (fun _ => (0 : Int)) (List.range c.2.1.toNat) acc
      rw [List.length_range] at this
      exact this
    have h3 := h c List.mem_cons_self
    rw [List.foldl_cons, List.length_cons, Nat.mul_succ]
    omega
/-- what is asked of the cells and shelves of a program -/
structure Hst.In (Z : Hst) : Prop where
  nd : ((Z.cells ++ Z.shelves).map (·.1)).Nodup
  cv : ∀ c ∈ Z.cells, In40 c.2.1
  sv : ∀ c ∈ Z.shelves, 1 ≤ c.2.1 ∧ c.2.1 ≤ 8
  cz : Z.cells.length ≤ 100
  sz : Z.shelves.length ≤ 100
section
variable {Z : Hst}
theorem Hst.In.nds (I : Z.In) : (Z.shelves.map (·.1)).Nodup ∧ (Z.cells.map (·.1)).Nodup ∧ ∀ c ∈ Z.cells, ∀ s ∈ Z.shelves, s.1 ≠ c.1 := by
  have := I.nd
  rw [List.map_append] at this
  obtain ⟨a, b, c⟩ := List.nodup_append.mp this
  exact ⟨b, a, fun x hx s hs e => c _ (List.mem_map_of_mem hx) _ (List.mem_map_of_mem hs) e.symm⟩
theorem nodup_key {l : List Thing} (h : (l.map (·.1)).Nodup) : (l.map fun c => ((c.1, 0) : Pl)).Nodup := by
  induction l with
  | nil => exact List.nodup_nil
  | cons c l ih =>
    rw [List.map_cons, List.nodup_cons] at h ⊢
    refine ⟨fun q => h.1 ?_, ih h.2⟩
    obtain ⟨x, hx, e⟩ := List.mem_map.mp q
    exact List.mem_map.mpr ⟨x, hx, (Prod.mk.inj e).1⟩
theorem Hst.In.home_c (I : Z.In) {c : Thing} (hc : c ∈ Z.cells) : agt Z.homeL (c.1, 0) = some c.2.1 := by
  unfold Hst.homeL
  rw [fold_shelf_not _ _ fun s hs => (I.nds).2.2 c hc s hs]
  exact fold_apt_mem (fun c : Thing => ((c.1, 0) : Pl)) (fun c => c.2.1) Z.cells [] (nodup_key I.nds.2.1) c hc
theorem Hst.In.home_s (I : Z.In) {c : Thing} (hc : c ∈ Z.shelves) {k : Nat} (hk : (k : Int) < c.2.1) : agt Z.homeL (c.1, k) = some 0 := by
  unfold Hst.homeL
  exact fold_shelf_mem _ _ I.nds.1 c hc k (by omega)
theorem Hst.In.tw_c (I : Z.In) {c : Thing} (hc : c ∈ Z.cells) : agt Z.twL c.1 = some c.2.2 := by
  unfold Hst.twL
  rw [fold_apt_not (fun c : Thing => c.1) (fun c => c.2.2) _ _ fun s hs => I.nds.2.2 c hc s hs]
  exact fold_apt_mem (fun c : Thing => c.1) (fun c => c.2.2) _ _ I.nds.2.1 c hc
theorem Hst.In.tw_s (I : Z.In) {c : Thing} (hc : c ∈ Z.shelves) : agt Z.twL c.1 = some c.2.2 := by
  unfold Hst.twL
  exact fold_apt_mem (fun c : Thing => c.1) (fun c => c.2.2) _ _ I.nds.1 c hc
theorem Hst.In.sz_s (I : Z.In) {c : Thing} (hc : c ∈ Z.shelves) : agt Z.szL c.1 = some c.2.1 := by
  unfold Hst.szL
  exact fold_apt_mem (fun c : Thing => c.1) (fun c => c.2.1) _ _ I.nds.1 c hc
theorem Hst.In.size_s (I : Z.In) {c : Thing} (hc : c ∈ Z.shelves) : Z.size c.1 = c.2.1 := by unfold Hst.size; rw [I.sz_s hc]; rfl
theorem isP_of {p : Pl} {v : Int} (h : agt Z.homeL p = some v) : Z.IsP p := by
  unfold Hst.IsP Hst.homeK
  exact ahas_iff.mp (ahas_some h)
theorem Hst.In.cell (I : Z.In) {c : Thing} (hc : c ∈ Z.cells) : Z.CellOk c.1 := ⟨ahas_some (I.tw_c hc), isP_of (I.home_c hc)⟩
theorem Hst.In.shelf (I : Z.In) {c : Thing} (hc : c ∈ Z.shelves) : Z.ShelfOk c.1 := by
  have e := I.size_s hc
  have := I.sv c hc
  exact ⟨ahas_some (I.tw_s hc), by rw [e]; exact I.sz_s hc, by omega, by omega, fun k hk => isP_of (I.home_s hc (by omega))⟩
theorem Hst.In.hm (I : Z.In) : ∀ p ∈ Z.homeL, In40 p.2 := by
  unfold Hst.homeL
  refine fold_shelf_all _ _ (fold_apt_all (fun c : Thing => ((c.1, 0) : Pl)) (fun c => c.2.1) _ _ (fun p hp => nomatch hp) fun c hc => I.cv c hc) fun c hc k hk => in0
theorem Hst.In.hz (I : Z.In) : Z.homeL.length ≤ 1000 := by
  have h1 := fold_shelf_len 8 Z.shelves (Z.cells.foldl (fun l c => apt l (c.1, 0) c.2.1) []) fun c hc => by have := I.sv c hc; omega
  have h2 : (Z.cells.foldl (fun l c => apt l (c.1, 0) c.2.1) ([] : List (Pl × Int))).length ≤ 0 + Z.cells.length := fold_apt_len (fun c : Thing => ((c.1, 0) : Pl)) (fun c => c.2.1) Z.cells []
  have := I.cz
  have := I.sz
  unfold Hst.homeL
  generalize Z.cells.foldl (fun l c => apt l (c.1, 0) c.2.1) ([] : List (Pl × Int)) = acc at h1 h2 ⊢
  omega
/-- all that a house asks -/
theorem Hst.In.ok (I : Z.In) (r : ∀ r ∈ Z.rows, Z.RowOk r) (led : ∀ (i : Nat) (r : PRow), Z.rows[i]? = some r → ∀ t ∈ r.led i, t < Z.rows.length) (n0 : 0 < Z.rows.length) (n1 : Z.rows.length ≤ 1000)
    (co : ∀ v ∈ Z.coming, In40 v) (cz : Z.coming.length ≤ 1000) (ks : ∀ k ∈ Z.keeps, k.2.length ≤ 1000) (kz : Z.keeps.length ≤ 1000) (bz : Z.beg.length ≤ 1000) : Z.Ok := ⟨r, led, n0, n1, co, cz, ks, kz, bz, I.hm, I.hz⟩
end
end Dn

/-! rows that work on given names -/
namespace Dn
open PySem PySem.Spec PyProof.Rows L2
def PRow.In (cn sn : List Str) : PRow → Prop
  | .say a => a.Ok
  | .copy _ a => a.Ok
  | .op _ s a b => isSign s ∧ a.Ok ∧ b.Ok
  | .load _ c => c ∈ cn
  | .store c a => c ∈ cn ∧ a.Ok
  | .take _ s a => s ∈ sn ∧ a.Ok
  | .lay s a b => s ∈ sn ∧ a.Ok ∧ b.Ok
  | .hear _ => True
  | .ifr a _ => a.Ok
  | .go _ => True
  | .endr a => a.Ok
section
variable {Z : Hst}
theorem Hst.In.row (I : Z.In) {r : PRow} (h : r.In (Z.cells.map (·.1)) (Z.shelves.map (·.1))) : Z.RowOk r := by
  have cl : ∀ {c : Str}, c ∈ Z.cells.map (·.1) → Z.CellOk c := fun {c} hc => by
    obtain ⟨x, hx, rfl⟩ := List.mem_map.mp hc
    exact I.cell hx
  have sl : ∀ {c : Str}, c ∈ Z.shelves.map (·.1) → Z.ShelfOk c := fun {c} hc => by
    obtain ⟨x, hx, rfl⟩ := List.mem_map.mp hc
    exact I.shelf hx
  cases r with
  | say a => exact h
  | copy x a => exact h
  | op x s a b => exact h
  | load x c => exact cl h
  | store c a => exact ⟨cl h.1, h.2⟩
  | take x s a => exact ⟨sl h.1, h.2⟩
  | lay s a b => exact ⟨sl h.1, h.2⟩
  | hear x => exact trivial
  | ifr a n => exact h
  | go n => exact trivial
  | endr a => exact h
end
theorem PRow.In.ok {cn sn : List Str} {ck sk : List Key} (hc : ∀ c ∈ cn, hasK ck (.inr c) = true) (hs : ∀ s ∈ sn, hasK sk (.inr s) = true) {r : PRow} (h : r.In cn sn) : r.Ok ck sk := by
  cases r with
  | say a => exact h
  | copy x a => exact h
  | op x s a b => exact h
  | load x c => exact hc _ h
  | store c a => exact ⟨hc _ h.1, h.2⟩
  | take x s a => exact ⟨hs _ h.1, h.2⟩
  | lay s a b => exact ⟨hs _ h.1, h.2⟩
  | hear x => exact trivial
  | ifr a n => exact h
  | go n => exact trivial
  | endr a => exact h
/-- where a row leads, within -/
def PRow.Led (many : Nat) : PRow → Prop
  | .ifr _ n => n < many
  | .go n => n < many
  | _ => True
theorem PRow.Led.led {many i : Nat} {r : PRow} (h : r.Led many) (hi : isEnd r = false → i + 1 < many) : ∀ t ∈ r.led i, t < many := fun t ht => by
  cases r with
  | ifr a n =>
    have ht : t ∈ [n, i + 1] := ht
    simp only [List.mem_cons, List.not_mem_nil, or_false] at ht
    rcases ht with q | q
    · rw [q]; exact h
    · rw [q]; exact hi rfl
  | go n => rw [List.mem_singleton.mp (show t ∈ [n] from ht)]; exact h
  | endr a => cases ht
  | _ => rw [List.mem_singleton.mp ht]; exact hi rfl
end Dn

/-! a def with defaults -/
namespace Dn
open PySem PySem.Spec PyProof.Rows L2
end Dn

/-! equal data; a house driven; the names on its pages -/
namespace Dn
open PySem PySem.Spec PyProof.Rows L2
theorem goodL_of {ds : List DV} (h : ∀ d ∈ ds, good d = true) : goodL ds = true := by
  induction ds with
  | nil => rfl
  | cons d ds ih =>
    show (good d && goodL ds) = true
    rw [h d List.mem_cons_self, ih fun x hx => h x (List.mem_cons_of_mem _ hx)]
    rfl
theorem deepL_of {ds : List DV} {n : Nat} (h : ∀ d ∈ ds, deep d ≤ n) : deepL ds ≤ n := by
  induction ds with
  | nil => exact Nat.zero_le _
  | cons d ds ih =>
    have h1 := h d List.mem_cons_self
    have h2 := ih fun x hx => h x (List.mem_cons_of_mem _ hx)
    show max (deep d) (deepL ds) ≤ n
    omega
theorem goodL_map {α : Type} {f : α → DV} {l : List α} (h : ∀ a ∈ l, good (f a) = true) : goodL (l.map f) = true := goodL_of fun d hd => by
  obtain ⟨a, ha, rfl⟩ := List.mem_map.mp hd
  exact h a ha
theorem deepL_map {α : Type} {f : α → DV} {l : List α} {n : Nat} (h : ∀ a ∈ l, deep (f a) ≤ n) : deepL (l.map f) ≤ n := deepL_of fun d hd => by
  obtain ⟨a, ha, rfl⟩ := List.mem_map.mp hd
  exact h a ha
theorem plainL_map {α : Type} {f : α → DV} {l : List α} (h : ∀ a ∈ l, plain (f a) = true) : plainL (l.map f) = true := plainL_iff.mpr fun d hd => by
  obtain ⟨a, ha, rfl⟩ := List.mem_map.mp hd
  exact h a ha
/-- equal data -/
theorem eqq {S : Sto} {x y : DV} {d : DV} (hx : cpD true S x = some d) (hy : cpD true S y = some d) (hg : good d = true) (hd : deep d ≤ 64) (hs : scD x y = none) (neg : Bool) : pEq neg x y S = some (.bl (!neg), S) := by
  obtain ⟨p, h1, h2, h3⟩ := toPy_good hg
  have e := eqDeep_same (S := S) hx hy h1 h1 h2 (by omega)
  unfold pEq eqD
  rw [hs]
  simp only [e]
  cases neg <;> rfl
theorem eqqP {S : Sto} {d : DV} (hp : plain d = true) (hg : good d = true) (hd : deep d ≤ 64) (hs : scD d d = none) (neg : Bool) : pEq neg d d S = some (.bl (!neg), S) := eqq (cpD_plain hp) (cpD_plain hp) hg hd hs neg
theorem eq_int {S : Sto} {i : Int} (neg : Bool) : pEq neg (.int i) (.int i) S = some (.bl (!neg), S) := by
  cases neg with
  | false => rw [v_eqI, decide_eq_true rfl]; rfl
  | true => rw [v_neI, decide_eq_true rfl]
/-! ### so many steps -/
section
variable (Z : Hst)
end
section
variable {Z : Hst} {N : Nat} {h : Hs}
/-! ### the names on the pages -/
structure Hs.Hn (P : Str → Prop) (h : Hs) : Prop where
  p0 : ∀ q ∈ h.p0.held, P q.1
  p1 : ∀ q ∈ h.p1.held, P q.1
  ph : ∀ r l k, h.ph = .keep r l k → ∀ x v, Dd.box x v ∈ l → P x
variable {P : Str → Prop}
theorem Hs.Hn.keep (Y : h.Hn P) {h' : Hs} (a : h'.p0 = h.p0) (b : h'.p1 = h.p1) (c : ∀ r l k, h'.ph = .keep r l k → ∀ x v, Dd.box x v ∈ l → P x) : h'.Hn P := ⟨by rw [a]; exact Y.p0, by rw [b]; exact Y.p1, c⟩
theorem row_pages (r : PRow) : (h.row Z r).p0 = h.p0 ∧ (h.row Z r).p1 = h.p1 := by
  have w : ∀ p v, (h.written Z p v).p0 = h.p0 ∧ (h.written Z p v).p1 = h.p1 := fun p v => by
    unfold Hs.written
    split <;> exact ⟨rfl, rfl⟩
  cases r with
  | say a =>
    show (h.say _).p0 = _ ∧ (h.say _).p1 = _
    unfold Hs.say
    split <;> exact ⟨rfl, rfl⟩
  | store c a => exact w _ _
  | lay s a b => exact w _ _
  | _ => exact ⟨rfl, rfl⟩
theorem Hs.Hn.setBack (Y : h.Hn P) {p : Pg} (hp : ∀ q ∈ p.held, P q.1) : (h.setBack p).Hn P := by
  unfold Hs.setBack
  split
  · exact ⟨hp, Y.p1, Y.ph⟩
  · exact ⟨Y.p0, hp, Y.ph⟩
theorem Hs.Hn.page (Y : h.Hn P) (b : Bool) : ∀ q ∈ (h.page b).held, P q.1 := by
  cases b
  · exact Y.p0
  · exact Y.p1
theorem Hs.Hn.deed (Y : h.Hn P) {d : Dd} (hd : ∀ x v, d = .box x v → P x) : (h.deed d).Hn P := by
  cases d with
  | page r => exact Y.setBack (fun q hq => nomatch hq)
  | box x v => exact Y.setBack (p := { h.back with held := h.back.held ++ [(x, v)] }) fun q hq => (List.mem_append.mp hq).elim (Y.page (!h.front) q) fun e => by rw [List.mem_singleton.mp e]; exact hd x v rfl
  | turn p v => exact Y.setBack (p := { h.back with turned := h.back.turned ++ [(p, v)] }) (Y.page (!h.front))
  | face => exact Y.keep rfl rfl Y.ph
  | home p v => exact Y.keep rfl rfl Y.ph
theorem Hs.Hn.step (Y : h.Hn P) (K : Z.Ok) (hk : ∀ k ∈ Z.keeps, ∀ x ∈ k.2, P x) : (h.step Z).Hn P := by
  unfold Hs.step
  split
  · exact Y
  · split
    · exact Y.keep rfl rfl (fun r l k e => nomatch e)
    · exact Y.keep rfl rfl (fun r l k e => nomatch e)
  · split
    · exact Y
    · rename_i i _ r hr
      obtain ⟨a, b⟩ := row_pages (Z := Z) (h := { h with done := h.done + 1 }) r
      split
      · exact Y.keep a b (fun r l k e => nomatch e)
      · unfold Hs.come
        split
        · exact Y.keep a b (fun r l k e => nomatch e)
        · rename_i bs e
          refine Y.keep a b fun r' l k e2 x v hx => ?_
          injection e2 with e3 e4 e5
          rw [← e4] at hx
          unfold Hs.small at hx
          have hb := hk _ (keepsL_mem K e)
          simp only [List.mem_append, List.mem_cons, List.mem_map, List.not_mem_nil, or_false, reduceCtorEq, false_or, and_false, exists_false] at hx
          obtain ⟨y, hy, ey⟩ := hx
          cases ey
          exact hb _ hy
  · rename_i r l k hp
    split
    · exact Y
    · rename_i d hd
      have D := Y.deed (d := d) fun x v e => Y.ph r l k hp x v (by rw [← e]; exact List.mem_of_getElem? hd)
      split
      · refine D.keep rfl rfl fun r' l' k' e => ?_
        injection e with e1 e2 e3
        rw [← e2]
        exact Y.ph r l k hp
      · exact D.keep rfl rfl (fun r l k e => nomatch e)
end
end Dn

/-! the plain machine of a program in order; what is seen of it -/
namespace Dn
open PySem PySem.Spec PyProof.Rows L2
section
variable {κ α : Type} [DecidableEq κ] {k j : κ} {v : α}
theorem pn_app : ∀ {a : List κ} {c : List α} {b : List κ} {d : List α}, a.length = c.length → lkG (a ++ b) (c ++ d) j = (lkG a c j).or (lkG b d j)
  | [], [], b, d, _ => by
    show lkG b d j = (lkG ([] : List κ) ([] : List α) j).or _
    unfold lkG
    rfl
  | [], _ :: _, _, _, h => by cases h
  | _ :: _, [], _, _, h => by cases h
  | x :: a, y :: c, b, d, h => by
    show (if x = j then some y else lkG (a ++ b) (c ++ d) j) = (if x = j then some y else lkG a c j).or (lkG b d j)
    by_cases q : x = j
    · rw [if_pos q, if_pos q]; rfl
    · rw [if_neg q, if_neg q, pn_app (Nat.succ.inj h)]
theorem pn_none : ∀ {a : List κ} {c : List α}, hasK a k = false → a.length = c.length → rpG k v a c = c
  | [], [], _, _ => rfl
  | [], _ :: _, _, h => by cases h
  | _ :: _, [], _, h => by cases h
  | x :: a, y :: c, h, hl => by
    unfold hasK at h
    rw [List.any_cons, Bool.or_eq_false_iff] at h
    show (if x = k then v else y) :: rpG k v a c = y :: c
    rw [if_neg (by simpa using h.1), pn_none (show hasK a k = false from h.2) (Nat.succ.inj hl)]
theorem pn_rp : ∀ {a : List κ} {c : List α}, hasK a k = true → a.length = c.length → lkG a (rpG k v a c) j = if k = j then some v else lkG a c j
  | [], _, h, _ => by cases h
  | _ :: _, [], _, hl => by cases hl
  | x :: a, y :: c, h, hl => by
    show (if x = j then some (if x = k then v else y) else lkG a (rpG k v a c) j) = if k = j then some v else (if x = j then some y else lkG a c j)
    by_cases q : x = k
    · by_cases q2 : x = j
      · rw [if_pos q2, if_pos q, if_pos (q.symm.trans q2)]
      · rw [if_neg q2, if_neg fun e => q2 (q.trans e), if_neg q2]
        by_cases q3 : hasK a k = true
        · rw [pn_rp q3 (Nat.succ.inj hl), if_neg fun e => q2 (q.trans e)]
        · rw [pn_none (by simpa using q3) (Nat.succ.inj hl)]
    · have h2 : hasK a k = true := by
        unfold hasK at h
        rw [List.any_cons, decide_eq_false q, Bool.false_or] at h
        exact h
      rw [pn_rp h2 (Nat.succ.inj hl)]
      by_cases q2 : x = j
      · rw [if_pos q2, if_neg q, if_neg (fun e => q (q2.trans e.symm)), if_pos q2]
      · rw [if_neg q2, if_neg q2]
theorem pn_lk_none : ∀ {a : List κ} {c : List α}, hasK a k = false → lkG a c k = none
  | [], c, _ => by unfold lkG; rfl
  | x :: a, [], _ => by unfold lkG; rfl
  | x :: a, y :: c, h => by
    unfold hasK at h
    rw [List.any_cons, Bool.or_eq_false_iff] at h
    show (if x = k then some y else lkG a c k) = none
    rw [if_neg (by simpa using h.1), pn_lk_none (show hasK a k = false from h.2)]
theorem pn_put {a : List κ} {c : List α} (hl : a.length = c.length) : lkG (putKs a k) (putG a c k v) j = if k = j then some v else lkG a c j := by
  by_cases q : hasK a k = true
  · rw [putKs_has q, putG_has q, pn_rp q hl]
  · unfold putKs putG
    rw [if_neg q, if_neg q, pn_app hl]
    by_cases q2 : k = j
    · subst q2
      rw [pn_lk_none (by simpa using q), if_pos rfl]
      show (none : Option α).or (if k = k then some v else _) = some v
      rw [if_pos rfl]; rfl
    · rw [if_neg q2]
      have : lkG [k] [v] j = none := by
        show (if k = j then some v else lkG ([] : List κ) ([] : List α) j) = none
        rw [if_neg q2]; unfold lkG; rfl
      rw [this]
      cases lkG a c j <;> rfl
end
/-! ### where it starts, what stays -/
def Hst.pst (Z : Hst) : PSt := ⟨0, 0, 0, none, [], [], Z.cells.map fun c => .inr c.1, Z.cells.map fun c => c.2.1, Z.shelves.map fun c => .inr c.1, Z.shelves.map fun c => List.replicate c.2.1.toNat 0, []⟩
structure Hst.Pl (Z : Hst) (st : PSt) (n : Nat) : Prop where
  ok : st.Ok
  ck : st.ck = Z.cells.map fun c => .inr c.1
  sk : st.sk = Z.shelves.map fun c => .inr c.1
  at_ : st.at_ < Z.rows.length
  dn : st.done ≤ n
  sz : ∀ c ∈ Z.shelves, (st.shelf c.1).length = c.2.1.toNat
/-- rows in order -/
structure Hst.Rs (Z : Hst) : Prop where
  i : Z.In
  r : ∀ r ∈ Z.rows, r.In (Z.cells.map (·.1)) (Z.shelves.map (·.1))
  led : ∀ (i : Nat) (r : PRow), Z.rows[i]? = some r → ∀ t ∈ r.led i, t < Z.rows.length
  n0 : 0 < Z.rows.length
  n1 : Z.rows.length ≤ 1000
  co : ∀ v ∈ Z.coming, In40 v
section
variable {Z : Hst} {st : PSt} {n : Nat}
theorem hasK_str {l : List Thing} {s : Str} (h : s ∈ l.map (·.1)) : hasK (l.map fun c => (Sum.inr c.1 : Key)) (.inr s) = true := by
  obtain ⟨c, hc, rfl⟩ := List.mem_map.mp h
  exact List.any_eq_true.mpr ⟨.inr c.1, List.mem_map.mpr ⟨c, hc, rfl⟩, decide_eq_true rfl⟩
theorem lk_first {α : Type} {f : Thing → α} : ∀ {l : List Thing}, (l.map (·.1)).Nodup → ∀ c ∈ l, lkG (l.map fun c => (Sum.inr c.1 : Key)) (l.map f) (.inr c.1) = some (f c)
  | [], _, c, h => nomatch h
  | d :: l, hn, c, h => by
    rw [List.map_cons, List.nodup_cons] at hn
    show (if (Sum.inr d.1 : Key) = .inr c.1 then some (f d) else lkG (l.map fun c => (Sum.inr c.1 : Key)) (l.map f) (.inr c.1)) = some (f c)
    rcases List.mem_cons.mp h with e | h
    · subst e; rw [if_pos rfl]
    · rw [if_neg (fun e => hn.1 (by rw [Sum.inr.inj e]; exact List.mem_map_of_mem h))]
      exact lk_first hn.2 c h
theorem pst_pl (R : Z.Rs) : Z.Pl Z.pst 0 := by
  refine ⟨⟨rfl, (fun v hv => nomatch hv), by show (Z.cells.map _).length = (Z.cells.map _).length; rw [List.length_map, List.length_map], fun v hv => ?_, by show (Z.shelves.map _).length = (Z.shelves.map _).length; rw [List.length_map, List.length_map], fun l hl => ?_, Nat.le_refl _, Nat.le_refl _⟩, rfl, rfl, R.n0, Nat.le_refl _, fun c hc => ?_⟩
  · obtain ⟨c, hc, rfl⟩ := List.mem_map.mp (show v ∈ Z.cells.map fun c => c.2.1 from hv)
    exact R.i.cv c hc
  · obtain ⟨c, hc, rfl⟩ := List.mem_map.mp (show l ∈ Z.shelves.map fun c => List.replicate c.2.1.toNat (0 : Int) from hl)
    have := R.i.sv c hc
    refine ⟨fun e => ?_, by rw [List.length_replicate]; omega, fun v hv => by rw [(List.mem_replicate.mp hv).2]; exact in0⟩
    have := congrArg List.length e
    rw [List.length_replicate, List.length_nil] at this
    omega
  · unfold PSt.shelf Hst.pst
    rw [lk_first (f := fun c => List.replicate c.2.1.toNat (0 : Int)) R.i.nds.1 c hc]
    exact List.length_replicate
theorem Hst.Pl.rok (P : Z.Pl st n) (R : Z.Rs) : ∀ r ∈ Z.rows, r.Ok st.ck st.sk := fun r hr => by
  rw [P.ck, P.sk]
  exact (R.r r hr).ok (fun c hc => hasK_str hc) fun s hs => hasK_str hs
theorem pnext_led {st : PSt} {r : PRow} (he : isEnd r = false) : st.next r ∈ r.led st.at_ := by
  cases r with
  | ifr a n =>
    show (if st.worth a = 0 then st.at_ + 1 else n) ∈ [n, st.at_ + 1]
    split
    · exact List.mem_cons_of_mem _ List.mem_cons_self
    · exact List.mem_cons_self
  | endr a => cases he
  | _ => exact List.mem_cons_self
theorem shelf_lay {s s' : Str} {l : List Int} (O : st.Ok) (h : hasK st.sk (.inr s) = true) : PSt.shelf { st with sv := rpG (.inr s) l st.sk st.sv } s' = if s = s' then l else st.shelf s' := by
  unfold PSt.shelf
  show (lkG st.sk (rpG (.inr s) l st.sk st.sv) (.inr s')).getD [0] = _
  rw [pn_rp h O.sl]
  by_cases q : s = s'
  · rw [if_pos (by rw [q]), if_pos q]; rfl
  · rw [if_neg (fun e => q (Sum.inr.inj e)), if_neg q]
theorem Hst.Pl.step (P : Z.Pl st n) (R : Z.Rs) : Z.Pl (st.step Z.rows Z.coming) (n + 1) := by
  obtain ⟨o1, o2, o3⟩ := P.ok.step (rows := Z.rows) (coming := Z.coming) R.co (P.rok R)
  have dn := P.dn
  refine ⟨o1, o2.trans P.ck, o3.trans P.sk, ?_, ?_, fun c hc => ?_⟩
  · unfold PSt.step
    cases e : st.res with
    | some v => exact P.at_
    | none =>
      cases e2 : Z.rows[st.at_]? with
      | none => exact P.at_
      | some r =>
        show st.next r < Z.rows.length
        cases q : isEnd r with
        | true =>
          cases r with
          | endr a => exact P.at_
          | _ => cases q
        | false => exact R.led _ _ e2 _ (pnext_led q)
  · unfold PSt.step
    cases e : st.res with
    | some v => show st.done ≤ n + 1; omega
    | none =>
      cases e2 : Z.rows[st.at_]? with
      | none => show st.done ≤ n + 1; omega
      | some r => show st.done + 1 ≤ n + 1; omega
  · have old := P.sz c hc
    unfold PSt.step
    cases e : st.res with
    | some v => exact old
    | none =>
      cases e2 : Z.rows[st.at_]? with
      | none => exact old
      | some r =>
        have hr := P.rok R r (List.mem_of_getElem? e2)
        show ((PSt.does Z.coming st r).shelf c.1).length = _
        cases r with
        | lay s a b =>
          show (PSt.shelf { st with sv := rpG (.inr s) ((st.shelf s).set (placeN (st.shelf s) (st.worth a)) (st.worth b)) st.sk st.sv } c.1).length = _
          rw [shelf_lay P.ok hr.1]
          by_cases q : s = c.1
          · rw [if_pos q, List.length_set, q]; exact old
          · rw [if_neg q]; exact old
        | _ => exact old
end
end Dn

/-! a plain run as it is seen -/
namespace Dn
open PySem PySem.Spec PyProof.Rows L2
structure Ob where
  at_ : Nat
  done : Nat
  hears : Nat
  box : Str → Int
  hv : Pl → Int
  gone : List Int
  res : Option Int
def fput {κ α : Type} [DecidableEq κ] (f : κ → α) (k : κ) (v : α) : κ → α := fun x => if k = x then v else f x
def Ob.worth (o : Ob) : Atm → Int
  | .n i => i
  | .x s => o.box s
def Ob.place (Z : Hst) (o : Ob) (n : Str) (a : Atm) : Nat := (o.worth a % Z.size n).toNat
def Ob.row (Z : Hst) (o : Ob) : PRow → Ob
  | .say a => { o with gone := o.gone ++ [o.worth a] }
  | .copy x a => { o with box := fput o.box x (o.worth a) }
  | .op x s a b => { o with box := fput o.box x (valS s (o.worth a) (o.worth b)) }
  | .load x c => { o with box := fput o.box x (o.hv (c, 0)) }
  | .store c a => { o with hv := fput o.hv (c, 0) (o.worth a) }
  | .take x s a => { o with box := fput o.box x (o.hv (s, o.place Z s a)) }
  | .lay s a b => { o with hv := fput o.hv (s, o.place Z s a) (o.worth b) }
  | .hear x => { o with box := fput o.box x (Z.coming.getD o.hears 0), hears := o.hears + 1 }
  | .ifr _ _ => o
  | .go _ => o
  | .endr a => { o with res := some (o.worth a) }
def Ob.next (o : Ob) : PRow → Nat
  | .ifr a n => if o.worth a = 0 then o.at_ + 1 else n
  | .go n => n
  | .endr _ => o.at_
  | _ => o.at_ + 1
def Ob.step (Z : Hst) (o : Ob) : Ob := match o.res with
  | some _ => o
  | none => match Z.rows[o.at_]? with
    | none => o
    | some r => { o.row Z r with done := o.done + 1, at_ := o.next r }
def hvOf (Z : Hst) (st : PSt) (p : Pl) : Int := if p.1 ∈ Z.cells.map (·.1) then (if p.2 = 0 then st.cell p.1 else 0) else (st.shelf p.1).getD p.2 0
def Hst.ob (Z : Hst) (st : PSt) : Ob := ⟨st.at_, st.done, st.hears, fun x => st.worth (.x x), hvOf Z st, st.gone, st.res⟩
section
variable {Z : Hst} {st : PSt} {n : Nat}
theorem ob_worth (a : Atm) : (Z.ob st).worth a = st.worth a := by cases a <;> rfl
theorem out_worth (O : st.Ok) (x y : Str) (v : Int) : (st.out x v).worth (.x y) = if x = y then v else st.worth (.x y) := by
  show (lkG (putKs st.hk (Sum.inr x : Key)) (putG st.hk st.hv (.inr x) v) (.inr y)).getD 0 = _
  rw [pn_put O.hl]
  by_cases q : x = y
  · rw [if_pos (by rw [q]), if_pos q]; rfl
  · rw [if_neg (fun e => q (Sum.inr.inj e)), if_neg q]; rfl
theorem out_box (O : st.Ok) (x : Str) (v : Int) : (fun y => (st.out x v).worth (.x y)) = fput (fun y => st.worth (.x y)) x v := by
  funext y
  rw [out_worth O]
  rfl
theorem cell_store {c c' : Str} {v : Int} (O : st.Ok) (h : hasK st.ck (.inr c) = true) : PSt.cell { st with cv := rpG (.inr c) v st.ck st.cv } c' = if c = c' then v else st.cell c' := by
  unfold PSt.cell
  show (lkG st.ck (rpG (.inr c) v st.ck st.cv) (.inr c')).getD 0 = _
  rw [pn_rp h O.cl]
  by_cases q : c = c'
  · rw [if_pos (by rw [q]), if_pos q]; rfl
  · rw [if_neg (fun e => q (Sum.inr.inj e)), if_neg q]
theorem shelf_place (P : Z.Pl st n) (R : Z.Rs) {s : Str} (hs : s ∈ Z.shelves.map (·.1)) (v : Int) : placeN (st.shelf s) v = (v % Z.size s).toNat := by
  obtain ⟨c, hc, rfl⟩ := List.mem_map.mp hs
  unfold placeN
  have h1 := P.sz c hc
  have h2 := R.i.sv c hc
  rw [h1, R.i.size_s hc, Int.toNat_of_nonneg (by omega)]
theorem obEq {s : PSt} {o : Ob} (h1 : s.at_ = o.at_) (h2 : s.done = o.done) (h3 : s.hears = o.hears) (h4 : (fun x => s.worth (.x x)) = o.box) (h5 : hvOf Z s = o.hv) (h6 : s.gone = o.gone) (h7 : s.res = o.res) : Z.ob s = o := by
  obtain ⟨a, b, c, d, e, f, g⟩ := o
  show (⟨s.at_, s.done, s.hears, fun x => s.worth (.x x), hvOf Z s, s.gone, s.res⟩ : Ob) = _
  rw [h1, h2, h3, h4, h5, h6, h7]
theorem ob_does (P : Z.Pl st n) (R : Z.Rs) {r : PRow} (hrow : Z.rows[st.at_]? = some r) : Z.ob { st.does Z.coming r with done := st.done + 1, at_ := st.next r } = { (Z.ob st).row Z r with done := (Z.ob st).done + 1, at_ := (Z.ob st).next r } := by
  have hin := R.r r (List.mem_of_getElem? hrow)
  have hok := P.rok R r (List.mem_of_getElem? hrow)
  have O := P.ok
  have hx : ∀ a, (Z.ob st).worth a = st.worth a := ob_worth
  have hn : ∀ {s : Str}, s ∈ Z.shelves.map (·.1) → s ∉ Z.cells.map (·.1) := fun {s} hs h => by
    obtain ⟨c, hc, e⟩ := List.mem_map.mp h
    obtain ⟨d, hd, e2⟩ := List.mem_map.mp hs
    exact R.i.nds.2.2 c hc d hd (e2.trans e.symm)
  cases r with
  | say a => exact obEq rfl rfl rfl rfl rfl (by show st.gone ++ [st.worth a] = (Z.ob st).gone ++ [(Z.ob st).worth a]; rw [hx]; rfl) rfl
  | copy x a => exact obEq rfl rfl rfl (by show (fun y => (st.out x (st.worth a)).worth (.x y)) = fput (fun y => st.worth (.x y)) x ((Z.ob st).worth a); rw [out_box O, hx]) rfl rfl rfl
  | op x s a b => exact obEq rfl rfl rfl (by show (fun y => (st.out x (valS s (st.worth a) (st.worth b))).worth (.x y)) = fput (fun y => st.worth (.x y)) x (valS s ((Z.ob st).worth a) ((Z.ob st).worth b)); rw [out_box O, hx, hx]) rfl rfl rfl
  | load x c =>
    have e : hvOf Z st (c, 0) = st.cell c := by
      unfold hvOf
      rw [if_pos (show c ∈ _ from hin), if_pos rfl]
    exact obEq rfl rfl rfl (by show (fun y => (st.out x (st.cell c)).worth (.x y)) = fput (fun y => st.worth (.x y)) x (hvOf Z st (c, 0)); rw [out_box O, e]) rfl rfl rfl
  | take x s a =>
    have e : hvOf Z st (s, ((Z.ob st).worth a % Z.size s).toNat) = (st.shelf s).getD (placeN (st.shelf s) (st.worth a)) 0 := by
      unfold hvOf
      rw [if_neg (hn hin.1), shelf_place P R hin.1, hx]
    exact obEq rfl rfl rfl (by show (fun y => (st.out x ((st.shelf s).getD (placeN (st.shelf s) (st.worth a)) 0)).worth (.x y)) = fput (fun y => st.worth (.x y)) x (hvOf Z st (s, ((Z.ob st).worth a % Z.size s).toNat)); rw [out_box O, e]) rfl rfl rfl
  | hear x => exact obEq rfl rfl rfl (by show (fun y => (st.out x (Z.coming.getD st.hears 0)).worth (.x y)) = fput (fun y => st.worth (.x y)) x (Z.coming.getD st.hears 0); rw [out_box O]) rfl rfl rfl
  | ifr a k => exact obEq (by show (if st.worth a = 0 then st.at_ + 1 else k) = (if (Z.ob st).worth a = 0 then st.at_ + 1 else k); rw [hx]) rfl rfl rfl rfl rfl rfl
  | go k => exact obEq rfl rfl rfl rfl rfl rfl rfl
  | endr a => exact obEq rfl rfl rfl rfl rfl rfl (by show some (st.worth a) = some ((Z.ob st).worth a); rw [hx])
  | store c a =>
    refine obEq rfl rfl rfl rfl ?_ rfl rfl
    funext p
    show hvOf Z { st with cv := rpG (.inr c) (st.worth a) st.ck st.cv, done := st.done + 1, at_ := st.at_ + 1 } p = fput (hvOf Z st) (c, 0) ((Z.ob st).worth a) p
    rw [hx]
    have ec : PSt.cell { st with cv := rpG (.inr c) (st.worth a) st.ck st.cv, done := st.done + 1, at_ := st.at_ + 1 } p.1 = if c = p.1 then st.worth a else st.cell p.1 := cell_store O hok.1
    have es : PSt.shelf { st with cv := rpG (.inr c) (st.worth a) st.ck st.cv, done := st.done + 1, at_ := st.at_ + 1 } p.1 = st.shelf p.1 := rfl
    unfold fput hvOf
    rw [ec, es]
    by_cases q : p.1 ∈ Z.cells.map (·.1)
    · rw [if_pos q, if_pos q]
      by_cases q2 : p.2 = 0
      · rw [if_pos q2, if_pos q2]
        by_cases q3 : c = p.1
        · rw [if_pos q3, if_pos (Prod.ext q3 q2.symm)]
        · rw [if_neg q3, if_neg fun e => q3 (congrArg Prod.fst e)]
      · rw [if_neg q2, if_neg q2, if_neg fun e => q2 (congrArg Prod.snd e).symm]
    · rw [if_neg q, if_neg q, if_neg fun (e : (c, 0) = p) => q (by have e1 : c = p.1 := congrArg Prod.fst e; rw [← e1]; exact hin.1)]
  | lay s a b =>
    refine obEq rfl rfl rfl rfl ?_ rfl rfl
    funext p
    show hvOf Z { st with sv := rpG (.inr s) ((st.shelf s).set (placeN (st.shelf s) (st.worth a)) (st.worth b)) st.sk st.sv, done := st.done + 1, at_ := st.at_ + 1 } p = fput (hvOf Z st) (s, ((Z.ob st).worth a % Z.size s).toNat) ((Z.ob st).worth b) p
    rw [hx, hx, ← shelf_place P R hin.1]
    have ec : PSt.shelf { st with sv := rpG (.inr s) ((st.shelf s).set (placeN (st.shelf s) (st.worth a)) (st.worth b)) st.sk st.sv, done := st.done + 1, at_ := st.at_ + 1 } p.1 = if s = p.1 then (st.shelf s).set (placeN (st.shelf s) (st.worth a)) (st.worth b) else st.shelf p.1 := shelf_lay O hok.1
    have es : PSt.cell { st with sv := rpG (.inr s) ((st.shelf s).set (placeN (st.shelf s) (st.worth a)) (st.worth b)) st.sk st.sv, done := st.done + 1, at_ := st.at_ + 1 } p.1 = st.cell p.1 := rfl
    have lt := placeN_lt (O.shelf hok.1).2.1 (st.worth a)
    unfold fput hvOf
    rw [ec, es]
    by_cases q : p.1 ∈ Z.cells.map (·.1)
    · rw [if_pos q, if_pos q, if_neg fun (e : (s, placeN (st.shelf s) (st.worth a)) = p) => hn hin.1 (by have e1 : s = p.1 := congrArg Prod.fst e; rw [e1]; exact q)]
    · rw [if_neg q, if_neg q]
      by_cases q3 : s = p.1
      · rw [if_pos q3]
        by_cases q4 : placeN (st.shelf s) (st.worth a) = p.2
        · rw [if_pos (Prod.ext q3 q4), List.getD_eq_getElem?_getD, List.getElem?_set, if_pos q4, if_pos lt]; rfl
        · rw [if_neg fun e => q4 (congrArg Prod.snd e), List.getD_eq_getElem?_getD, List.getElem?_set, if_neg q4, ← List.getD_eq_getElem?_getD, q3]
      · rw [if_neg q3, if_neg fun e => q3 (congrArg Prod.fst e)]
theorem ob_step (P : Z.Pl st n) (R : Z.Rs) : Z.ob (st.step Z.rows Z.coming) = (Z.ob st).step Z := by
  unfold Ob.step PSt.step
  show Z.ob (match st.res with | some _ => st | none => _) = (match st.res with | some _ => Z.ob st | none => _)
  cases hres : st.res with
  | some v => rfl
  | none =>
    show Z.ob (match Z.rows[st.at_]? with | none => st | some r => _) = (match Z.rows[st.at_]? with | none => Z.ob st | some r => _)
    cases hrow : Z.rows[st.at_]? with
    | none => rfl
    | some r => exact ob_does P R hrow
end
/-- the plain run, row by row -/
def Hst.prun (Z : Hst) : Nat → PSt
  | 0 => Z.pst
  | n + 1 => (Z.prun n).step Z.rows Z.coming
def Hst.run (Z : Hst) : Nat → Ob
  | 0 => Z.ob Z.pst
  | n + 1 => (Z.run n).step Z
section
variable {Z : Hst} {n m : Nat}
theorem prun_pl (R : Z.Rs) : ∀ n, Z.Pl (Z.prun n) n
  | 0 => pst_pl R
  | n + 1 => (prun_pl R n).step R
theorem prun_ob (R : Z.Rs) : ∀ n, Z.ob (Z.prun n) = Z.run n
  | 0 => rfl
  | n + 1 => by
    show Z.ob ((Z.prun n).step Z.rows Z.coming) = (Z.run n).step Z
    rw [ob_step (prun_pl R n) R, prun_ob R n]
theorem run_at (R : Z.Rs) (n : Nat) : (Z.run n).at_ < Z.rows.length := by
  rw [← prun_ob R n]
  exact (prun_pl R n).at_
theorem run_row (R : Z.Rs) (n : Nat) : ∃ r, Z.rows[(Z.run n).at_]? = some r := ⟨_, List.getElem?_eq_getElem (run_at R n)⟩
theorem run_succ {r : PRow} (h : (Z.run n).res = none) (hr : Z.rows[(Z.run n).at_]? = some r) : Z.run (n + 1) = { (Z.run n).row Z r with done := (Z.run n).done + 1, at_ := (Z.run n).next r } := by
  show (Z.run n).step Z = _
  unfold Ob.step
  rw [h]
  simp only [hr]
theorem run_stay {v : Int} (h : (Z.run n).res = some v) : Z.run (n + 1) = Z.run n := by
  show (Z.run n).step Z = _
  unfold Ob.step
  rw [h]
theorem run_ended {v : Int} (h : (Z.run n).res = some v) : ∀ k, Z.run (n + k) = Z.run n
  | 0 => rfl
  | k + 1 => by
    have ih := run_ended h k
    show Z.run (n + k + 1) = _
    rw [run_stay (v := v) (by rw [ih]; exact h), ih]
theorem run_alive (h : (Z.run n).res = none) : ∀ m, m ≤ n → (Z.run m).res = none := fun m hm => by
  cases q : (Z.run m).res with
  | none => rfl
  | some v =>
    have := run_ended q (n - m)
    rw [show m + (n - m) = n by omega] at this
    rw [this, q] at h
    cases h
theorem gone_row (o : Ob) (r : PRow) : ∃ t, (o.row Z r).gone = o.gone ++ t ∧ t.length ≤ 1 := by
  cases r with
  | say a => exact ⟨[o.worth a], rfl, Nat.le_refl _⟩
  | _ => exact ⟨[], (List.append_nil _).symm, Nat.zero_le _⟩
theorem gone_succ (R : Z.Rs) (n : Nat) : ∃ t, (Z.run (n + 1)).gone = (Z.run n).gone ++ t ∧ t.length ≤ 1 := by
  cases h : (Z.run n).res with
  | some v => exact ⟨[], by rw [run_stay h, List.append_nil], Nat.zero_le _⟩
  | none =>
    obtain ⟨r, hr⟩ := run_row R n
    rw [run_succ h hr]
    exact gone_row _ r
theorem gone_le (R : Z.Rs) : ∀ k, ∃ t, (Z.run (n + k)).gone = (Z.run n).gone ++ t ∧ t.length ≤ k
  | 0 => ⟨[], (List.append_nil _).symm, Nat.le_refl _⟩
  | k + 1 => by
    obtain ⟨t, h1, h2⟩ := gone_le R k
    obtain ⟨u, h3, h4⟩ := gone_succ R (n + k)
    exact ⟨t ++ u, by show (Z.run (n + k + 1)).gone = _; rw [h3, h1, List.append_assoc], by rw [List.length_append]; omega⟩
theorem gone_pre (R : Z.Rs) (h : n ≤ m) : ∃ t, (Z.run m).gone = (Z.run n).gone ++ t := by
  obtain ⟨t, h1, _⟩ := gone_le (n := n) R (m - n)
  rw [show n + (m - n) = m by omega] at h1
  exact ⟨t, h1⟩
theorem onext_led {o : Ob} {r : PRow} (he : isEnd r = false) : o.next r ∈ r.led o.at_ := by
  cases r with
  | ifr a n =>
    show (if o.worth a = 0 then o.at_ + 1 else n) ∈ [n, o.at_ + 1]
    split
    · exact List.mem_cons_of_mem _ List.mem_cons_self
    · exact List.mem_cons_self
  | endr a => cases he
  | _ => exact List.mem_cons_self
end
end Dn

/-! a house with failings, against the plain run -/
namespace Dn
open PySem PySem.Spec PyProof.Rows L2
def Atm.bx : Atm → List Str
  | .n _ => []
  | .x s => [s]
def PRow.rds : PRow → List Str
  | .say a => a.bx
  | .copy _ a => a.bx
  | .op _ _ a b => a.bx ++ b.bx
  | .load _ _ => []
  | .store _ a => a.bx
  | .take _ _ a => a.bx
  | .lay _ a b => a.bx ++ b.bx
  | .hear _ => []
  | .ifr a _ => a.bx
  | .go _ => []
  | .endr a => a.bx
def PRow.sets : PRow → Option Str
  | .copy x _ => some x
  | .op x _ _ _ => some x
  | .load x _ => some x
  | .take x _ _ => some x
  | .hear x => some x
  | _ => none
def PRow.getsT : PRow → Option Str
  | .load _ c => some c
  | .take _ s _ => some s
  | _ => none
def PRow.putsT : PRow → Option Str
  | .store c _ => some c
  | .lay s _ _ => some s
  | _ => none
def putsAt (Z : Hst) (o : Ob) : PRow → Option Pl
  | .store c _ => some (c, 0)
  | .lay s a _ => some (s, o.place Z s a)
  | _ => none
/-- what is asked of a cutting -/
structure Holds (Z : Hst) (Nd : Nat → Str → Prop) : Prop where
  n1 : ∀ i r b, Z.rows[i]? = some r → b ∈ r.rds → Nd i b
  n2 : ∀ i r j b, Z.rows[i]? = some r → j ∈ r.led i → Nd j b → r.sets ≠ some b → Nd i b
  nb : ∀ b, Nd 0 b → b ∈ Z.beg
  nk : ∀ i bs b, agt Z.keepsL i = some bs → Nd i b → b ∈ bs
  ends : ∀ i r, Z.rows[i]? = some r → isEnd r = true → ∃ bs, agt Z.keepsL i = some bs
  sp : ∀ (f : Nat → Nat) (i n : Nat) (c : Str), Z.twin c = false → (f 0 = 0 ∨ ∃ bs, agt Z.keepsL (f 0) = some bs) → (∀ k, k < n → ∃ r, Z.rows[f k]? = some r ∧ f (k + 1) ∈ r.led (f k)) →
    (∀ k, 0 < k → k ≤ n → agt Z.keepsL (f k) = none) → i < n → (∃ r, Z.rows[f i]? = some r ∧ r.getsT = some c) → (∃ r, Z.rows[f n]? = some r ∧ r.putsT = some c) → ∃ k, k < i ∧ ∃ a, Z.rows[f k]? = some (.store c a)
def PutsAt (Z : Hst) (k : Nat) (p : Pl) : Prop := ∃ r, Z.rows[(Z.run k).at_]? = some r ∧ putsAt Z (Z.run k) r = some p
/-- a page tells the plain run behind n0 rows -/
structure Pgo (Z : Hst) (Nd : Nat → Str → Prop) (p : Pg) (n0 : Nat) : Prop where
  al : (Z.run n0).res = none
  row : (Z.run n0).at_ = p.row
  dn : p.done = n0
  he : p.hears = (Z.run n0).hears
  sa : p.says = (Z.run n0).gone.length
  bx : ∀ b, Nd p.row b → agt (dictL p.held) b = some ((Z.run n0).box b)
  nd : (p.turned.map (·.1)).Nodup
  tk : ∀ q ∈ p.turned, Z.twin q.1.1 = true
  st : p.row = 0 ∨ ∃ bs, agt Z.keepsL p.row = some bs
/-- what stays, and how far it was -/
structure Com (Z : Hst) (Nd : Nat → Str → Prop) (h : Hs) (n0 M X : Nat) : Prop where
  pg : Pgo Z Nd (h.page h.front) n0
  tw : ∀ p, Z.IsP p → Z.twin p.1 = true → (agt (h.page h.front).turned p).getD (h.homeV p) = (Z.run n0).hv p
  nM : n0 ≤ M
  mX : M ≤ X
  mal : (Z.run M).res = none
  pa : ∀ k, n0 < k → k < M → agt Z.keepsL (Z.run k).at_ = none
  le : h.letters = (Z.run X).gone
  re : h.rent = false
structure UpOk (Z : Hst) (h : Hs) (n0 M k : Nat) : Prop where
  nt : ∀ p, Z.IsP p → Z.twin p.1 = false → ∃ j, n0 ≤ j ∧ j ≤ M ∧ h.homeV p = (Z.run j).hv p
  tu : ∀ i q, i < k → (h.page h.front).turned[i]? = some q → h.homeV q.1 = q.2
  kl : k ≤ (h.page h.front).turned.length
  lg : h.log = []
structure GoOk (Z : Hst) (Nd : Nat → Str → Prop) (h : Hs) (n0 n M : Nat) : Prop where
  al : (Z.run n).res = none
  dn : h.done = n
  he : h.hears = (Z.run n).hears
  sa : h.says = (Z.run n).gone.length
  bx : ∀ b, Nd (Z.run n).at_ b → h.worth (.x b) = (Z.run n).box b
  hm : ∀ p, Z.IsP p → Z.twin p.1 = true → h.homeV p = (Z.run n0).hv p
  lg : ∀ p, Z.IsP p → Z.twin p.1 = true → (agt h.log p).getD (h.homeV p) = (Z.run n).hv p
  lt : ∀ q ∈ h.log, Z.twin q.1.1 = true
  kp : n0 < n → agt Z.keepsL (Z.run n).at_ = none
  nt : ∀ p, Z.IsP p → Z.twin p.1 = false → ((∃ k, n0 ≤ k ∧ k < n ∧ PutsAt Z k p) ∧ h.homeV p = (Z.run n).hv p) ∨ ((∀ k, n0 ≤ k → k < n → ¬ PutsAt Z k p) ∧ ∃ j, n0 ≤ j ∧ j ≤ M ∧ h.homeV p = (Z.run j).hv p)
section
variable {Z : Hst} {Nd : Nat → Str → Prop} {h : Hs} {n0 n M X N : Nat}
theorem hv_row {o : Ob} {r : PRow} {p : Pl} (hp : putsAt Z o r ≠ some p) : (o.row Z r).hv p = o.hv p := by
  cases r with
  | store c a => exact if_neg fun e => hp (congrArg some e)
  | lay s a b => exact if_neg fun e => hp (congrArg some e)
  | _ => rfl
theorem hv_succ (R : Z.Rs) {k : Nat} {p : Pl} (hp : ¬ PutsAt Z k p) : (Z.run (k + 1)).hv p = (Z.run k).hv p := by
  cases q : (Z.run k).res with
  | some v => rw [run_stay q]
  | none =>
    obtain ⟨r, hr⟩ := run_row R k
    rw [run_succ q hr]
    exact hv_row fun e => hp ⟨r, hr, e⟩
theorem hv_const (R : Z.Rs) {p : Pl} {a : Nat} : ∀ (m : Nat), (∀ k, a ≤ k → k < a + m → ¬ PutsAt Z k p) → (Z.run (a + m)).hv p = (Z.run a).hv p
  | 0, _ => rfl
  | m + 1, hk => by
    show (Z.run (a + m + 1)).hv p = _
    rw [hv_succ R (hk (a + m) (by omega) (by omega)), hv_const R m fun k h1 h2 => hk k h1 (by omega)]
theorem run_led (R : Z.Rs) {k : Nat} (h : (Z.run (k + 1)).res = none) : ∃ r, Z.rows[(Z.run k).at_]? = some r ∧ isEnd r = false ∧ (Z.run (k + 1)).at_ ∈ r.led (Z.run k).at_ := by
  have h0 := run_alive h k (Nat.le_succ k)
  obtain ⟨r, hr⟩ := run_row R k
  have e := run_succ h0 hr
  have ne : isEnd r = false := by
    cases r with
    | endr a => rw [e] at h; cases h
    | _ => rfl
  refine ⟨r, hr, ne, ?_⟩
  rw [e]
  exact onext_led ne
theorem apt_homeV {p q : Pl} {v : Int} : ({ h with home := apt h.home q v } : Hs).homeV p = if q = p then v else h.homeV p := by
  show (agt (apt h.home q v) p).getD 0 = _
  rw [agt_apt]
  by_cases e : q = p
  · rw [if_pos e, if_pos e]; rfl
  · rw [if_neg e, if_neg e]; rfl
/-- the atoms that a row reads are right -/
theorem atm_ok (H : Holds Z Nd) (G : GoOk Z Nd h n0 n M) {r : PRow} (hr : Z.rows[(Z.run n).at_]? = some r) (a : Atm) (ha : ∀ s ∈ a.bx, s ∈ r.rds) : h.worth a = (Z.run n).worth a := by
  cases a with
  | n i => rfl
  | x s => exact G.bx s (H.n1 _ r s hr (ha s (List.mem_singleton.mpr rfl)))
/-- what a row loads or takes of no twin is right -/
theorem rd_ok (R : Z.Rs) (H : Holds Z Nd) (C : Com Z Nd h n0 M X) (G : GoOk Z Nd h n0 n M) (hn0 : n0 ≤ n) (hnM : n ≤ M) {r : PRow} (hr : Z.rows[(Z.run n).at_]? = some r) {p : Pl} (hp : Z.IsP p) (ht : Z.twin p.1 = false) (hg : r.getsT = some p.1)
    (hc : ∀ k a, Z.rows[(Z.run k).at_]? = some (.store p.1 a) → PutsAt Z k p) : h.homeV p = (Z.run n).hv p := by
  rcases G.nt p hp ht with ⟨_, e⟩ | ⟨no, j, j1, j2, e⟩
  · exact e
  · rw [e]
    rcases Nat.le_or_ge j n with q | q
    · have := hv_const R (p := p) (a := j) (n - j) fun k k1 k2 => no k (by omega) (by omega)
      rw [show j + (n - j) = n by omega] at this
      exact this.symm
    · have := hv_const R (p := p) (a := n) (j - n) fun k k1 k2 ⟨rk, hrk, hpk⟩ => by
        have hT : rk.putsT = some p.1 := by
          cases rk with
          | store c a => exact congrArg some (congrArg Prod.fst (Option.some.inj hpk))
          | lay s a b => exact congrArg some (congrArg Prod.fst (Option.some.inj hpk))
          | _ => cases hpk
        have hnk : n ≠ k := fun z => by
          subst z
          rw [hr] at hrk
          cases hrk
          cases r <;> first | cases hg; done | cases hT
        obtain ⟨k', h1, a, h2⟩ := H.sp (fun i => (Z.run (n0 + i)).at_) (n - n0) (k - n0) p.1 ht (by
            show (Z.run n0).at_ = 0 ∨ ∃ bs, agt Z.keepsL (Z.run n0).at_ = some bs
            rw [C.pg.row]
            exact C.pg.st)
          (fun i hi => by
            obtain ⟨r', e1, _, e2⟩ := run_led R (k := n0 + i) (run_alive C.mal _ (by omega))
            exact ⟨r', e1, e2⟩)
          (fun i i0 hi => C.pa (n0 + i) (by omega) (by omega)) (by omega) (by rw [show n0 + (n - n0) = n by omega]; exact ⟨r, hr, hg⟩) (by rw [show n0 + (k - n0) = k by omega]; exact ⟨rk, hrk, hT⟩)
        exact no (n0 + k') (by omega) (by omega) (hc _ a h2)
      rw [show n + (j - n) = j by omega] at this
      exact this
end
end Dn

/-! a row done by a house with failings -/
namespace Dn
open PySem PySem.Spec PyProof.Rows L2
structure Rowd (Z : Hst) (h h1 : Hs) (n0 n M X : Nat) (r : PRow) : Prop where
  w : ∀ b, (r.sets = some b ∨ (r.sets ≠ some b ∧ h.worth (.x b) = (Z.run n).box b)) → h1.worth (.x b) = (Z.run (n + 1)).box b
  dn : h1.done = n + 1
  he : h1.hears = (Z.run (n + 1)).hears
  sa : h1.says = (Z.run (n + 1)).gone.length
  hm : ∀ p, Z.IsP p → Z.twin p.1 = true → h1.homeV p = h.homeV p
  lg : ∀ p, Z.IsP p → Z.twin p.1 = true → (agt h1.log p).getD (h1.homeV p) = (Z.run (n + 1)).hv p
  lt : ∀ q ∈ h1.log, Z.twin q.1.1 = true
  nt : ∀ p, Z.IsP p → Z.twin p.1 = false → ((∃ k, n0 ≤ k ∧ k < n + 1 ∧ PutsAt Z k p) ∧ h1.homeV p = (Z.run (n + 1)).hv p) ∨ ((∀ k, n0 ≤ k → k < n + 1 → ¬ PutsAt Z k p) ∧ ∃ j, n0 ≤ j ∧ j ≤ M ∧ h1.homeV p = (Z.run j).hv p)
  pg : h1.p0 = h.p0 ∧ h1.p1 = h.p1 ∧ h1.front = h.front
  le : h1.letters = (Z.run (max X (n + 1))).gone
  re : h1.rent = false
  nx : isEnd r = false → h.next (Z.run n).at_ r = (Z.run n).next r
  fi : isEnd r = true → h1.fin = (Z.run (n + 1)).res
section
variable {Z : Hst} {Nd : Nat → Str → Prop} {h : Hs} {n0 n M X N : Nat}
theorem nt_ext (R : Z.Rs) (G : GoOk Z Nd h n0 n M) {h1 : Hs} {p : Pl} (hp : Z.IsP p) (ht : Z.twin p.1 = false) (e : h1.homeV p = h.homeV p) (hn : ¬ PutsAt Z n p) :
    ((∃ k, n0 ≤ k ∧ k < n + 1 ∧ PutsAt Z k p) ∧ h1.homeV p = (Z.run (n + 1)).hv p) ∨ ((∀ k, n0 ≤ k → k < n + 1 → ¬ PutsAt Z k p) ∧ ∃ j, n0 ≤ j ∧ j ≤ M ∧ h1.homeV p = (Z.run j).hv p) := by
  rcases G.nt p hp ht with ⟨⟨k, k1, k2, k3⟩, e2⟩ | ⟨no, j, j1, j2, e2⟩
  · exact .inl ⟨⟨k, k1, by omega, k3⟩, by rw [e, e2, hv_succ R hn]⟩
  · refine .inr ⟨fun k k1 k2 => ?_, j, j1, j2, by rw [e, e2]⟩
    rcases Nat.lt_or_ge k n with q | q
    · exact no k k1 q
    · rw [show k = n by omega]; exact hn
theorem le_same (R : Z.Rs) (C : Com Z Nd h n0 M X) (hnM : n ≤ M) (hal : (Z.run n).res = none) {r : PRow} (hr : Z.rows[(Z.run n).at_]? = some r) (hg : ((Z.run n).row Z r).gone = (Z.run n).gone) {h1 : Hs} (e : h1.bn = h.bn) : h1.letters = (Z.run (max X (n + 1))).gone := by
  have e1 : h1.letters = (Z.run X).gone := by
    unfold Hs.letters
    rw [e]
    exact C.le
  have mX := C.mX
  rw [e1]
  rcases Nat.lt_or_ge X (n + 1) with q | q
  · have ex : X = n := by omega
    rw [Nat.max_eq_right (by omega), run_succ hal hr, ex]
    exact hg.symm
  · rw [Nat.max_eq_left q]
theorem isP_ne {p q : Pl} (h1 : Z.twin p.1 = true) (h2 : Z.twin q.1 = false) : p ≠ q := fun e => by
  rw [e, h2] at h1
  cases h1
/-- a row that puts nothing at a place -/
theorem rowd_of (R : Z.Rs) (C : Com Z Nd h n0 M X) (G : GoOk Z Nd h n0 n M) (hnM : n ≤ M) {r : PRow} (hr : Z.rows[(Z.run n).at_]? = some r) {h1 : Hs} (hp : ∀ p, putsAt Z (Z.run n) r ≠ some p)
    (w : ∀ b, (r.sets = some b ∨ (r.sets ≠ some b ∧ h.worth (.x b) = (Z.run n).box b)) → h1.worth (.x b) = ((Z.run n).row Z r).box b) (dn : h1.done = n + 1) (he : h1.hears = ((Z.run n).row Z r).hears) (sa : h1.says = ((Z.run n).row Z r).gone.length)
    (hm : h1.home = h.home) (lg : h1.log = h.log) (pg : h1.p0 = h.p0 ∧ h1.p1 = h.p1 ∧ h1.front = h.front) (le : h1.letters = (Z.run (max X (n + 1))).gone) (re : h1.rent = false) (nx : isEnd r = false → h.next (Z.run n).at_ r = (Z.run n).next r) (fi : isEnd r = true → h1.fin = ((Z.run n).row Z r).res) : Rowd Z h h1 n0 n M X r := by
  have e1 := run_succ G.al hr
  have np : ∀ p, ¬ PutsAt Z n p := fun p ⟨r', hr', hp'⟩ => by
    rw [hr] at hr'
    cases hr'
    exact hp p hp'
  have hv : ∀ p, h1.homeV p = h.homeV p := fun p => by unfold Hs.homeV; rw [hm]
  refine ⟨fun b hb => ?_, dn, ?_, ?_, fun p _ _ => hv p, fun p h2 h3 => ?_, ?_, fun p h2 h3 => nt_ext R G h2 h3 (hv p) (np p), pg, le, re, nx, fun hq => ?_⟩
  · rw [e1]; exact w b hb
  · rw [e1]; exact he
  · rw [e1]; exact sa
  · rw [lg, hv, G.lg p h2 h3, hv_succ R (np p)]
  · rw [lg]; exact G.lt
  · rw [e1]; exact fi hq
/-- a row that puts a value at a place -/
theorem rowd_put (R : Z.Rs) (C : Com Z Nd h n0 M X) (G : GoOk Z Nd h n0 n M) (hn0 : n0 ≤ n) (hnM : n ≤ M) {r : PRow} (hr : Z.rows[(Z.run n).at_]? = some r) {q : Pl} {v : Int} (hq : Z.IsP q) (hp : putsAt Z (Z.run n) r = some q) (hs : r.sets = none) (he : isEnd r = false)
    (hv : ((Z.run n).row Z r).hv = fput (Z.run n).hv q v) (hb : ((Z.run n).row Z r).box = (Z.run n).box) (hh : ((Z.run n).row Z r).hears = (Z.run n).hears) (hg : ((Z.run n).row Z r).gone = (Z.run n).gone) (nx : isEnd r = false → h.next (Z.run n).at_ r = (Z.run n).next r) :
    Rowd Z h (({ h with done := h.done + 1 } : Hs).written Z q v) n0 n M X r := by
  have e1 := run_succ G.al hr
  have pn : PutsAt Z n q := ⟨r, hr, hp⟩
  have np : ∀ p, q ≠ p → ¬ PutsAt Z n p := fun p hne ⟨r', hr', hp'⟩ => by
    rw [hr] at hr'
    cases hr'
    rw [hp] at hp'
    exact hne (Option.some.inj hp')
  have hv1 : ∀ p, (Z.run (n + 1)).hv p = if q = p then v else (Z.run n).hv p := fun p => by
    rw [e1]
    show ((Z.run n).row Z r).hv p = _
    rw [hv]; rfl
  have bn : ∀ h1 : Hs, h1.bn = h.bn → h1.letters = (Z.run (max X (n + 1))).gone := fun h1 e => le_same R C hnM G.al hr hg e
  have wb : ∀ b, (r.sets = some b ∨ (r.sets ≠ some b ∧ h.worth (.x b) = (Z.run n).box b)) → h.worth (.x b) = (Z.run (n + 1)).box b := fun b hb2 => by
    rw [e1]
    show h.worth (.x b) = ((Z.run n).row Z r).box b
    rw [hb]
    rcases hb2 with z | z
    · rw [hs] at z; cases z
    · exact z.2
  have he1 : h.hears = (Z.run (n + 1)).hears := by rw [e1, G.he]; exact hh.symm
  have sa1 : h.says = (Z.run (n + 1)).gone.length := by
    rw [e1, G.sa]
    show _ = ((Z.run n).row Z r).gone.length
    rw [hg]
  have ne : ¬ isEnd r = true := by rw [he]; decide
  unfold Hs.written
  by_cases ht : Z.twin q.1 = true
  · rw [if_pos ht]
    refine ⟨wb, congrArg (· + 1) G.dn, he1, sa1, fun p _ _ => rfl, fun p h2 h3 => ?_, apt_mem (P := fun (q : Pl × Int) => Z.twin q.1.1 = true) G.lt ht, fun p h2 h3 => nt_ext R G h2 h3 rfl (np p (isP_ne ht h3)), ⟨rfl, rfl, rfl⟩, bn _ rfl, C.re, nx, fun z => absurd z ne⟩
    show (agt (apt h.log q v) p).getD (h.homeV p) = _
    rw [hv1, agt_apt]
    by_cases z : q = p
    · rw [if_pos z, if_pos z]; rfl
    · rw [if_neg z, if_neg z]; exact G.lg p h2 h3
  · have ht := Bool.eq_false_iff.mpr ht
    rw [if_neg (by rw [ht]; decide)]
    have hV : ∀ p, ({ h with done := h.done + 1, home := apt h.home q v } : Hs).homeV p = if q = p then v else h.homeV p := fun p => apt_homeV
    refine ⟨wb, congrArg (· + 1) G.dn, he1, sa1, fun p _ h3 => ?_, fun p h2 h3 => ?_, G.lt, fun p h2 h3 => ?_, ⟨rfl, rfl, rfl⟩, bn _ rfl, C.re, nx, fun z => absurd z ne⟩
    · rw [hV, if_neg (isP_ne h3 ht).symm]
    · show (agt h.log p).getD (({ h with done := h.done + 1, home := apt h.home q v } : Hs).homeV p) = _
      rw [hV, if_neg (isP_ne h3 ht).symm, G.lg p h2 h3, hv1, if_neg (isP_ne h3 ht).symm]
    · by_cases z : q = p
      · refine .inl ⟨⟨n, hn0, Nat.lt_succ_self n, z ▸ pn⟩, ?_⟩
        rw [hV, hv1, if_pos z, if_pos z]
      · exact nt_ext R G h2 h3 (by rw [hV, if_neg z]) (np p z)
theorem worth_out (h : Hs) (x b : Str) (v : Int) : (h.out x v).worth (.x b) = if x = b then v else h.worth (.x b) := by
  show (agt (apt h.held x v) b).getD h.dust = _
  rw [agt_apt]
  by_cases q : x = b
  · rw [if_pos q, if_pos q]; rfl
  · rw [if_neg q, if_neg q]; rfl
/-- all rows -/
theorem go_row (R : Z.Rs) (H : Holds Z Nd) (Y : h.Sy) (C : Com Z Nd h n0 M X) (G : GoOk Z Nd h n0 n M) (hn0 : n0 ≤ n) (hnM : n ≤ M) {r : PRow} (hr : Z.rows[(Z.run n).at_]? = some r) : Rowd Z h (Hs.row Z { h with done := h.done + 1 } r) n0 n M X r := by
  have hin := R.r r (List.mem_of_getElem? hr)
  have aw : ∀ a, (∀ s ∈ a.bx, s ∈ r.rds) → h.worth a = (Z.run n).worth a := fun a ha => atm_ok H G hr a ha
  have dn1 : h.done + 1 = n + 1 := congrArg (· + 1) G.dn
  have pgr : h.p0 = h.p0 ∧ h.p1 = h.p1 ∧ h.front = h.front := ⟨rfl, rfl, rfl⟩
  have cellP : ∀ {c : Str}, c ∈ Z.cells.map (·.1) → Z.IsP (c, 0) := fun {c} hc => by
    obtain ⟨x, hx, rfl⟩ := List.mem_map.mp hc
    exact (R.i.cell hx).pl
  have plc : ∀ {s : Str} {a : Atm}, s ∈ Z.shelves.map (·.1) → h.worth a = (Z.run n).worth a → h.place Z s a = (Z.run n).place Z s a ∧ Z.IsP (s, (Z.run n).place Z s a) := fun {s a} hs hw => by
    obtain ⟨x, hx, rfl⟩ := List.mem_map.mp hs
    have e : h.place Z x.1 a = (Z.run n).place Z x.1 a := by unfold Hs.place Ob.place; rw [hw]
    refine ⟨e, ?_⟩
    rw [← e]
    exact (R.i.shelf hx).pl _ (place_lt (R.i.shelf hx)).2
  have seen : ∀ {p : Pl}, Z.IsP p → (Z.twin p.1 = false → h.homeV p = (Z.run n).hv p) → h.seen Z p = (Z.run n).hv p := fun {p} hp hnt => by
    unfold Hs.seen
    by_cases q : Z.twin p.1 = true
    · rw [if_pos q]; exact G.lg p hp q
    · rw [if_neg q]; exact hnt (Bool.eq_false_iff.mpr q)
  -- rows that set a box
  have outc : ∀ {x : Str} {v : Int} {h1 : Hs}, r.sets = some x → ((Z.run n).row Z r).box = fput (Z.run n).box x v → (∀ b, h1.worth (.x b) = if x = b then v else h.worth (.x b)) → ∀ b, (r.sets = some b ∨ (r.sets ≠ some b ∧ h.worth (.x b) = (Z.run n).box b)) → h1.worth (.x b) = ((Z.run n).row Z r).box b := fun {x v h1} hx hb hw b hbb => by
    rw [hw, hb]
    show _ = if x = b then v else (Z.run n).box b
    by_cases z : x = b
    · rw [if_pos z, if_pos z]
    · rw [if_neg z, if_neg z]
      rcases hbb with y | y
      · rw [hx] at y; exact absurd (Option.some.inj y) z
      · exact y.2
  have noset : ∀ {h1 : Hs}, r.sets = none → ((Z.run n).row Z r).box = (Z.run n).box → (∀ b, h1.worth (.x b) = h.worth (.x b)) → ∀ b, (r.sets = some b ∨ (r.sets ≠ some b ∧ h.worth (.x b) = (Z.run n).box b)) → h1.worth (.x b) = ((Z.run n).row Z r).box b := fun {h1} hx hb hw b hbb => by
    rw [hw, hb]
    rcases hbb with y | y
    · rw [hx] at y; cases y
    · exact y.2
  have les : ∀ {h1 : Hs}, ((Z.run n).row Z r).gone = (Z.run n).gone → h1.bn = h.bn → h1.letters = (Z.run (max X (n + 1))).gone := fun {h1} hg e => le_same R C hnM G.al hr hg e
  cases r with
  | copy x a =>
    have ea := aw a fun s hs => hs
    exact rowd_of R C G hnM hr (fun p z => nomatch z) (outc (v := (Z.run n).worth a) rfl rfl fun b => by rw [← ea]; exact worth_out _ x b _) dn1 G.he G.sa rfl rfl pgr (les rfl rfl) C.re (fun _ => rfl) (fun z => nomatch z)
  | op x s a b =>
    have ea := aw a fun s hs => List.mem_append_left _ hs
    have eb := aw b fun s hs => List.mem_append_right _ hs
    exact rowd_of R C G hnM hr (fun p z => nomatch z) (outc (v := valS s ((Z.run n).worth a) ((Z.run n).worth b)) rfl rfl fun y => by rw [← ea, ← eb]; exact worth_out _ x y _) dn1 G.he G.sa rfl rfl pgr (les rfl rfl) C.re (fun _ => rfl) (fun z => nomatch z)
  | load x c =>
    have hP := cellP (show c ∈ _ from hin)
    have es : h.seen Z (c, 0) = (Z.run n).hv (c, 0) := seen hP fun ht => rd_ok R H C G hn0 hnM hr hP ht rfl fun k a hk => ⟨_, hk, rfl⟩
    exact rowd_of R C G hnM hr (fun p z => nomatch z) (outc (v := (Z.run n).hv (c, 0)) rfl rfl fun y => by rw [← es]; exact worth_out _ x y _) dn1 G.he G.sa rfl rfl pgr (les rfl rfl) C.re (fun _ => rfl) (fun z => nomatch z)
  | take x s a =>
    have ea := aw a fun s hs => hs
    obtain ⟨ep, hP⟩ := plc hin.1 ea
    have hnc : s ∉ Z.cells.map (·.1) := fun h => by
      obtain ⟨c, hc, e⟩ := List.mem_map.mp h
      obtain ⟨d, hd, e2⟩ := List.mem_map.mp hin.1
      exact R.i.nds.2.2 c hc d hd (e2.trans e.symm)
    have es : h.seen Z (s, (Z.run n).place Z s a) = (Z.run n).hv (s, (Z.run n).place Z s a) := seen hP fun ht => rd_ok R H C G hn0 hnM hr hP ht rfl fun k b hk => absurd (R.r _ (List.mem_of_getElem? hk)).1 hnc
    exact rowd_of R C G hnM hr (fun p z => nomatch z) (outc (v := (Z.run n).hv (s, (Z.run n).place Z s a)) rfl rfl fun y => by
      rw [← es, ← ep]; exact worth_out _ x y _) dn1 G.he G.sa rfl rfl pgr (les rfl rfl) C.re (fun _ => rfl) (fun z => nomatch z)
  | hear x => exact rowd_of R C G hnM hr (fun p z => nomatch z) (outc (v := Z.coming.getD (Z.run n).hears 0) rfl rfl fun y => by rw [← G.he]; exact worth_out _ x y _) dn1 (congrArg (· + 1) G.he) G.sa rfl rfl pgr (les rfl rfl) C.re (fun _ => rfl) (fun z => nomatch z)
  | ifr a k =>
    have ea := aw a fun s hs => hs
    exact rowd_of R C G hnM hr (fun p z => nomatch z) (noset rfl rfl fun b => rfl) dn1 G.he G.sa rfl rfl pgr (les rfl rfl) C.re (fun _ => by show (if h.worth a = 0 then _ else _) = (if (Z.run n).worth a = 0 then _ else _); rw [ea]) (fun z => nomatch z)
  | go k => exact rowd_of R C G hnM hr (fun p z => nomatch z) (noset rfl rfl fun b => rfl) dn1 G.he G.sa rfl rfl pgr (les rfl rfl) C.re (fun _ => rfl) (fun z => nomatch z)
  | endr a =>
    have ea := aw a fun s hs => hs
    exact rowd_of R C G hnM hr (fun p z => nomatch z) (noset rfl rfl fun b => rfl) dn1 G.he G.sa rfl rfl pgr (les rfl rfl) C.re (fun z => nomatch z) (fun _ => by show some (h.worth a) = some ((Z.run n).worth a); rw [ea])
  | say a =>
    have ea := aw a fun s hs => hs
    have hrow : ((Z.run n).row Z (.say a)).gone = (Z.run n).gone ++ [h.worth a] := by rw [ea]; rfl
    have e1 := run_succ G.al hr
    have mX := C.mX
    have key : agt h.bn h.says = (if X = n then none else some (h.worth a)) := by
      rw [agt_range Y.k]
      have el : (h.bn[h.says]?).map (·.2) = h.letters[h.says]? := by unfold Hs.letters; rw [List.getElem?_map]
      rw [el, C.le]
      by_cases q : X = n
      · rw [if_pos q, q, G.sa, List.getElem?_eq_none (Nat.le_refl _)]
      · rw [if_neg q]
        obtain ⟨t, et⟩ := gone_pre (n := n + 1) (m := X) R (by omega)
        rw [et, e1]
        show (((Z.run n).row Z (.say a)).gone ++ t)[h.says]? = _
        rw [hrow, G.sa, List.append_assoc, List.getElem?_append_right (Nat.le_refl _), Nat.sub_self]
        rfl
    have sa1 : h.says + 1 = ((Z.run n).row Z (.say a)).gone.length := by rw [hrow, List.length_append, G.sa]; rfl
    have say_eq : Hs.row Z { h with done := h.done + 1 } (.say a) = (match agt h.bn h.says with
      | none => { h with done := h.done + 1, bn := apt h.bn h.says (h.worth a), says := h.says + 1 }
      | some u => { h with done := h.done + 1, rent := h.rent || !decide (u = h.worth a), says := h.says + 1 }) := by
      show Hs.say { h with done := h.done + 1 } (h.worth a) = _
      unfold Hs.say
      show (match agt h.bn h.says with | none => _ | some u => _) = _
      cases agt h.bn h.says <;> rfl
    rw [say_eq, key]
    by_cases q : X = n
    · rw [if_pos q]
      refine rowd_of R C G hnM hr (fun p z => nomatch z) (noset rfl rfl fun b => rfl) dn1 G.he sa1 rfl rfl pgr ?_ C.re (fun _ => rfl) (fun z => nomatch z)
      rw [q, Nat.max_eq_right (Nat.le_succ n), e1]
      show (apt h.bn h.says (h.worth a)).map (·.2) = ((Z.run n).row Z (.say a)).gone
      rw [if_pos q] at key
      have hn : ahas h.bn h.says = false := agt_none.mp key
      have ea2 : apt h.bn h.says (h.worth a) = h.bn ++ [(h.says, h.worth a)] := by
        unfold apt
        rw [if_neg (by rw [hn]; decide)]
      rw [ea2, List.map_append, hrow, ← q, ← C.le]
      rfl
    · rw [if_neg q]
      refine rowd_of R C G hnM hr (fun p z => nomatch z) (noset rfl rfl fun b => rfl) dn1 G.he sa1 rfl rfl pgr ?_ ?_ (fun _ => rfl) (fun z => nomatch z)
      · rw [Nat.max_eq_left (by omega)]
        exact C.le
      · show (h.rent || !decide (h.worth a = h.worth a)) = false
        rw [C.re, decide_eq_true rfl]; rfl
  | store c a =>
    have ea := aw a fun s hs => hs
    have hP := cellP hin.1
    have e : Hs.row Z { h with done := h.done + 1 } (.store c a) = ({ h with done := h.done + 1 } : Hs).written Z (c, 0) ((Z.run n).worth a) := by rw [← ea]; rfl
    rw [e]
    exact rowd_put R C G hn0 hnM hr hP rfl rfl rfl rfl rfl rfl rfl (fun _ => rfl)
  | lay s a b =>
    have ea := aw a fun s hs => List.mem_append_left _ hs
    have eb := aw b fun s hs => List.mem_append_right _ hs
    obtain ⟨ep, hP⟩ := plc hin.1 ea
    have e : Hs.row Z { h with done := h.done + 1 } (.lay s a b) = ({ h with done := h.done + 1 } : Hs).written Z (s, (Z.run n).place Z s a) ((Z.run n).worth b) := by rw [← eb, ← ep]; rfl
    rw [e]
    exact rowd_put R C G hn0 hnM hr hP rfl rfl rfl rfl rfl rfl rfl (fun _ => rfl)
end
end Dn

/-! a house with failings keeps to the plain run -/
namespace Dn
open PySem PySem.Spec PyProof.Rows L2
/-! ### writing down, by parts -/
structure Like (g h : Hs) : Prop where
  fr : g.front = h.front
  pg : g.page g.front = h.page h.front
  hm : g.home = h.home
  bn : g.bn = h.bn
  re : g.rent = h.rent
  he : g.held = h.held
  du : g.dust = h.dust
  lo : g.log = h.log
  dn : g.done = h.done
  hs : g.hears = h.hears
  sa : g.says = h.says
theorem Like.refl (h : Hs) : Like h h := ⟨rfl, rfl, rfl, rfl, rfl, rfl, rfl, rfl, rfl, rfl, rfl⟩
theorem Like.trans {a b c : Hs} (x : Like a b) (y : Like b c) : Like a c := ⟨x.fr.trans y.fr, x.pg.trans y.pg, x.hm.trans y.hm, x.bn.trans y.bn, x.re.trans y.re, x.he.trans y.he, x.du.trans y.du, x.lo.trans y.lo, x.dn.trans y.dn, x.hs.trans y.hs, x.sa.trans y.sa⟩
theorem like_back (h : Hs) (p : Pg) : Like (h.setBack p) h := by
  obtain ⟨d1, d2, d3, d4, d5, d6, d7, d8, d9, d10, f, d12, d13, d14⟩ := h
  cases f <;> exact ⟨rfl, rfl, rfl, rfl, rfl, rfl, rfl, rfl, rfl, rfl, rfl⟩
theorem back_get (h : Hs) (p : Pg) : (h.setBack p).back = p := by
  obtain ⟨d1, d2, d3, d4, d5, d6, d7, d8, d9, d10, f, d12, d13, d14⟩ := h
  cases f <;> rfl
theorem back_back (h : Hs) (p q : Pg) : (h.setBack p).setBack q = h.setBack q := by
  obtain ⟨d1, d2, d3, d4, d5, d6, d7, d8, d9, d10, f, d12, d13, d14⟩ := h
  cases f <;> rfl
def Hs.newPg (h : Hs) (r : Nat) (bs : List Str) : Pg := ⟨r, h.done, h.hears, h.says, bs.map fun x => (x, h.worth (.x x)), h.log⟩
def Hs.partA (h : Hs) (r : Nat) (bs : List Str) : List Dd := Dd.page r :: (bs.map fun x => Dd.box x (h.worth (.x x))) ++ (h.log.map fun p => Dd.turn p.1 p.2)
theorem small_eq (h : Hs) (r : Nat) (bs : List Str) : h.small r bs = h.partA r bs ++ (Dd.face :: h.log.map fun p => Dd.home p.1 p.2) := by
  unfold Hs.small Hs.partA
  simp only [List.append_assoc, List.cons_append, List.nil_append]
theorem foldA (h : Hs) (r : Nat) (bs : List Str) : (h.partA r bs).foldl Hs.deed h = h.setBack (h.newPg r bs) := by
  have bx : ∀ (l : List Str) (a : List (Str × Int)), (l.map fun x => Dd.box x (h.worth (.x x))).foldl Hs.deed (h.setBack ⟨r, h.done, h.hears, h.says, a, []⟩) = h.setBack ⟨r, h.done, h.hears, h.says, a ++ l.map fun x => (x, h.worth (.x x)), []⟩ := fun l => by
    induction l with
    | nil => intro a; rw [List.map_nil, List.map_nil, List.append_nil]; rfl
    | cons x l ih =>
      intro a
      rw [List.map_cons, List.foldl_cons]
      have : (h.setBack ⟨r, h.done, h.hears, h.says, a, []⟩).deed (.box x (h.worth (.x x))) = h.setBack ⟨r, h.done, h.hears, h.says, a ++ [(x, h.worth (.x x))], []⟩ := by
        show (h.setBack _).setBack { (h.setBack _).back with held := (h.setBack _).back.held ++ _ } = _
        rw [back_get, back_back]
      rw [this, ih, List.map_cons, List.append_assoc]
      rfl
  have tn : ∀ (l : List (Pl × Int)) (b : List (Str × Int)) (a : List (Pl × Int)), (l.map fun p => Dd.turn p.1 p.2).foldl Hs.deed (h.setBack ⟨r, h.done, h.hears, h.says, b, a⟩) = h.setBack ⟨r, h.done, h.hears, h.says, b, a ++ l⟩ := fun l => by
    induction l with
    | nil => intro b a; rw [List.map_nil, List.append_nil]; rfl
    | cons x l ih =>
      intro b a
      rw [List.map_cons, List.foldl_cons]
      have : (h.setBack ⟨r, h.done, h.hears, h.says, b, a⟩).deed (.turn x.1 x.2) = h.setBack ⟨r, h.done, h.hears, h.says, b, a ++ [x]⟩ := by
        show (h.setBack _).setBack { (h.setBack _).back with turned := (h.setBack _).back.turned ++ _ } = _
        rw [back_get, back_back]
      rw [this, ih, List.append_assoc]
      rfl
  unfold Hs.partA
  rw [List.foldl_append, List.foldl_cons]
  have p0 : h.deed (.page r) = h.setBack ⟨r, h.done, h.hears, h.says, [], []⟩ := rfl
  rw [p0, bx bs [], List.nil_append, tn h.log _ [], List.nil_append]
  rfl
theorem fold_home : ∀ (l : List (Pl × Int)) (g : Hs), (l.map fun p => Dd.home p.1 p.2).foldl Hs.deed g = { g with home := l.foldl (fun a p => apt a p.1 p.2) g.home }
  | [], g => rfl
  | x :: l, g => by
    rw [List.map_cons, List.foldl_cons, fold_home l]
    rfl
/-- behind the face -/
theorem fold_new (h : Hs) (r : Nat) (bs : List Str) (i : Nat) : ((h.small r bs).take ((h.partA r bs).length + 1 + i)).foldl Hs.deed h = { h.setBack (h.newPg r bs) with front := !h.front, home := (h.log.take i).foldl (fun a p => apt a p.1 p.2) h.home } := by
  rw [small_eq]
  have e : (h.partA r bs ++ (Dd.face :: h.log.map fun p => Dd.home p.1 p.2)).take ((h.partA r bs).length + 1 + i) = h.partA r bs ++ (Dd.face :: (h.log.take i).map fun p => Dd.home p.1 p.2) := by
    rw [List.take_append, List.take_of_length_le (by omega), show (h.partA r bs).length + 1 + i - (h.partA r bs).length = i + 1 by omega, List.take_succ_cons, List.map_take]
  rw [e, List.foldl_append, foldA, List.foldl_cons, fold_home]
  have b := like_back h (h.newPg r bs)
  show ({ h.setBack (h.newPg r bs) with front := !(h.setBack (h.newPg r bs)).front, home := _ } : Hs) = _
  rw [b.fr]
  show ({ h.setBack (h.newPg r bs) with front := !h.front, home := (h.log.take i).foldl (fun a p => apt a p.1 p.2) (h.setBack (h.newPg r bs)).home } : Hs) = _
  rw [b.hm]
theorem flip_page (h : Hs) (p : Pg) (m : List (Pl × Int)) : ({ h.setBack p with front := !h.front, home := m } : Hs).page (!h.front) = p := by
  obtain ⟨d1, d2, d3, d4, d5, d6, d7, d8, d9, d10, f, d12, d13, d14⟩ := h
  cases f <;> rfl
/-! ### the relation -/
structure ArOk (Z : Hst) (Nd : Nat → Str → Prop) (h : Hs) (n0 n : Nat) : Prop where
  al : (Z.run n).res = none
  dn : h.done = n
  he : h.hears = (Z.run n).hears
  sa : h.says = (Z.run n).gone.length
  bx : ∀ b, Nd (Z.run n).at_ b → h.worth (.x b) = (Z.run n).box b
  lg : ∀ p, Z.IsP p → Z.twin p.1 = true → (agt h.log p).getD (h.homeV p) = (Z.run n).hv p
  lt : ∀ q ∈ h.log, Z.twin q.1.1 = true
  ln : (h.log.map (·.1)).Nodup
  nt : ∀ p, Z.IsP p → Z.twin p.1 = false → h.homeV p = (Z.run n).hv p
structure RestOk (Z : Hst) (h : Hs) (M : Nat) : Prop where
  al : (Z.run M).res = none
  fi : h.fin = (Z.run (M + 1)).res
  so : (Z.run (M + 1)).res.isSome = true
  hv : ∀ p, Z.IsP p → h.homeV p = (Z.run (M + 1)).hv p
  le : h.letters = (Z.run (M + 1)).gone
  re : h.rent = false
  cn : (h.page h.front).done = M
inductive Sim (Z : Hst) (Nd : Nat → Str → Prop) (T : Nat) (h : Hs) : Prop
  | up {n0 M X k : Nat} (hX : X ≤ T) (hp : h.ph = .up k) (C : Com Z Nd h n0 M X) (U : UpOk Z h n0 M k) : Sim Z Nd T h
  | go {n0 n M X : Nat} (hX : X ≤ T) (hp : h.ph = .go (Z.run n).at_) (h0 : n0 ≤ n) (hM : n ≤ M) (C : Com Z Nd h n0 M X) (G : GoOk Z Nd h n0 n M) : Sim Z Nd T h
  | keep {n0 n X j : Nat} {bs : List Str} {g : Hs} (hX : X ≤ T) (C : Com Z Nd g n0 n X) (A : ArOk Z Nd g n0 n) (hk : agt Z.keepsL (Z.run n).at_ = some bs) (hj : j < (g.small (Z.run n).at_ bs).length)
      (e : h = { ((g.small (Z.run n).at_ bs).take j).foldl Hs.deed g with ph := .keep (Z.run n).at_ (g.small (Z.run n).at_ bs) j }) : Sim Z Nd T h
  | rest {M : Nat} (hX : M + 1 ≤ T) (hp : h.ph = .rest) (E : RestOk Z h M) : Sim Z Nd T h
section
variable {Z : Hst} {Nd : Nat → Str → Prop} {h g : Hs} {n0 n M X N T : Nat}
theorem Com.like (C : Com Z Nd h n0 M X) {g : Hs} (pg : g.page g.front = h.page h.front) (hm : g.home = h.home) (bn : g.bn = h.bn) (re : g.rent = h.rent) : Com Z Nd g n0 M X := by
  have hv : ∀ p, g.homeV p = h.homeV p := fun p => by unfold Hs.homeV; rw [hm]
  exact ⟨by rw [pg]; exact C.pg, fun p h1 h2 => by rw [pg, hv]; exact C.tw p h1 h2, C.nM, C.mX, C.mal, C.pa, by unfold Hs.letters; rw [bn]; exact C.le, re.trans C.re⟩
/-! ### coming up -/
/-! ### a row -/
end
end Dn

/-! a house with failings keeps to the plain run: writing down, failings, the begin -/
namespace Dn
open PySem PySem.Spec PyProof.Rows L2
section
variable {Z : Hst} {Nd : Nat → Str → Prop} {h g : Hs} {n0 n M X N T : Nat}
theorem deed_ph (f : Hs) (p : Ph) (d : Dd) : ({ f with ph := p } : Hs).deed d = { f.deed d with ph := p } := by
  obtain ⟨d1, d2, d3, d4, d5, d6, d7, d8, d9, d10, b, d12, d13, d14⟩ := f
  cases d <;> cases b <;> rfl
theorem Sim.mono (S : Sim Z Nd T h) {T' : Nat} (le : T ≤ T') : Sim Z Nd T' h := by
  cases S with
  | up hX hp C U => exact .up (Nat.le_trans hX le) hp C U
  | go hX hp h0 hM C G => exact .go (Nat.le_trans hX le) hp h0 hM C G
  | keep hX C A hk hj e => exact .keep (Nat.le_trans hX le) C A hk hj e
  | rest hX hp E => exact .rest (Nat.le_trans hX le) hp E
/-! ### the begin -/
/-! ### what is seen of it -/
theorem Sim.let (S : Sim Z Nd T h) : ∃ X, X ≤ T ∧ h.letters = (Z.run X).gone ∧ h.rent = false := by
  cases S with
  | up hX hp C U => exact ⟨_, hX, C.le, C.re⟩
  | go hX hp h0 hM C G => exact ⟨_, hX, C.le, C.re⟩
  | @keep n0 n X j bs g hX C A hk hj e =>
    have q : ∀ (l : List Dd) (f : Hs), (l.foldl Hs.deed f).bn = f.bn ∧ (l.foldl Hs.deed f).rent = f.rent := fun l => by
      induction l with
      | nil => intro f; exact ⟨rfl, rfl⟩
      | cons d l ih =>
        intro f
        rw [List.foldl_cons]
        have : (f.deed d).bn = f.bn ∧ (f.deed d).rent = f.rent := by
          obtain ⟨d1, d2, d3, d4, d5, d6, d7, d8, d9, d10, b, d12, d13, d14⟩ := f
          cases d <;> cases b <;> exact ⟨rfl, rfl⟩
        exact ⟨(ih _).1.trans this.1, (ih _).2.trans this.2⟩
    refine ⟨X, hX, ?_, ?_⟩
    · rw [e]
      unfold Hs.letters
      show ((((g.small (Z.run n).at_ bs).take j).foldl Hs.deed g).bn).map _ = _
      rw [(q _ _).1]
      exact C.le
    · rw [e]
      exact (q _ _).2.trans C.re
  | rest hX hp E => exact ⟨_, hX, E.le, E.re⟩
end
end Dn

/-! what a law sees of a house with failings -/
namespace Dn
open PySem PySem.Spec PyProof.Rows L2
section
variable {Z : Hst} {Nd : Nat → Str → Prop} {h : Hs} {n0 n M X N T i : Nat}
theorem Sim.at_go (S : Sim Z Nd T h) (hp : h.ph = .go i) : ∃ n0 n M X, X ≤ T ∧ (Z.run n).at_ = i ∧ n0 ≤ n ∧ n ≤ M ∧ Com Z Nd h n0 M X ∧ GoOk Z Nd h n0 n M := by
  cases S with
  | up hX hp2 C U => rw [hp] at hp2; cases hp2
  | @go n0 n M X hX hp2 h0 hM C G =>
    rw [hp] at hp2
    cases hp2
    exact ⟨n0, n, M, X, hX, rfl, h0, hM, C, G⟩
  | keep hX C A hk hj e => rw [e] at hp; cases hp
  | rest hX hp2 E => rw [hp] at hp2; cases hp2
/-- where it stands -/
structure StandsOk (Z : Hst) (T : Nat) (h : Hs) (n : Nat) : Prop where
  al : (Z.run n).res = none
  nT : n ≤ T
  dn : h.done = n
  bx : ∀ r, Z.rows[(Z.run n).at_]? = some r → ∀ b ∈ r.rds, h.worth (.x b) = (Z.run n).box b
  le : ∃ X, n ≤ X ∧ X ≤ T ∧ h.letters = (Z.run X).gone
  nx : ∀ r i', Z.rows[(Z.run n).at_]? = some r → (h.step Z).ph = .go i' → (h.step Z).done = n + 1 ∧ ∀ b, r.sets = some b → (h.step Z).worth (.x b) = (Z.run (n + 1)).box b
theorem Sim.stands (R : Z.Rs) (H : Holds Z Nd) (Y : h.Sy) (S : Sim Z Nd T h) (hp : h.ph = .go i) : ∃ n, (Z.run n).at_ = i ∧ StandsOk Z T h n := by
  obtain ⟨n0, n, M, X, hX, rfl, h0, hM, C, G⟩ := S.at_go hp
  have mX := C.mX
  refine ⟨n, rfl, G.al, by omega, G.dn, fun r hr b hb => G.bx b (H.n1 _ r b hr hb), ⟨X, by omega, hX, C.le⟩, fun r i' hr hg => ?_⟩
  have D := go_row R H Y C G h0 hM hr
  rw [step_go hp hr] at hg ⊢
  cases he : isEnd r with
  | true => rw [he, if_pos rfl] at hg; cases hg
  | false =>
    rw [he, if_neg (by decide)] at hg
    rw [if_neg (by decide)]
    unfold Hs.come at hg ⊢
    cases hk : agt Z.keepsL (h.next (Z.run n).at_ r) with
    | some bs => rw [hk] at hg; cases hg
    | none => exact ⟨D.dn, fun b hb => D.w b (.inl hb)⟩
end
end Dn

/-! a store alone: its cells -/
namespace Dn
open PySem PySem.Spec PyProof.Rows L2
def stC (Z : Hst) (L : HL) (h : Hs) : Cs :=
  [(L.st, .ins "Store" (stF L h)), (L.hm, dkP intD h.home), (L.sz, dkS intD Z.szL), (L.p0, .ins "Page" (pgF h.p0 L.h0 L.t0)), (L.h0, .lst (h.p0.held.map bvD)), (L.t0, .lst (h.p0.turned.map tnD)), (L.p1, .ins "Page" (pgF h.p1 L.h1 L.t1)), (L.h1, .lst (h.p1.held.map bvD)), (L.t1, .lst (h.p1.turned.map tnD)), (L.pg, .lst [.loc L.p0, .loc L.p1])]
abbrev SSt (Z : Hst) (S : Sto) (L : HL) (h : Hs) (S' : Sto) (L' : HL) (h' : Hs) : Prop := Stp S (stC Z L h) S' (stC Z L' h') ∧ L'.st = L.st
section
variable {Z : Hst} {S S' S1 : Sto} {L L' L1 : HL} {h h' h1 : Hs}
theorem SSt.trans (a : SSt Z S L h S1 L1 h1) (b : SSt Z S1 L1 h1 S' L' h') : SSt Z S L h S' L' h' := ⟨a.1.trans b.1, b.2.trans a.2⟩
theorem SSt.refl (A : AtS S (stC Z L h)) : SSt Z S L h S L h := ⟨Stp.refl A, rfl⟩
variable (A : AtS S (stC Z L h))
include A
end
end Dn

/-! a house comes to rest within a bound, where the plain run ends -/
namespace Dn
open PySem PySem.Spec PyProof.Rows L2
section
variable {Z : Hst} {Nd : Nat → Str → Prop} {h g : Hs} {N T E c : Nat}
end
end Dn

/-! a slice of a list with a step -/
namespace Dn
open PySem PySem.Spec PyProof.Rows L2
section
variable {X : Cx} {e : Expr} {te : TE} {lo hi : Option Expr} {tl th : TO} {pos p1 p2 : Pos} {k : Int} {kk : Nat}
end
end Dn

/-! the hand's letters never grow fewer -/
namespace Dn
open PySem PySem.Spec PyProof.Rows L2
section
variable {Z : Hst} {h : Hs}
end
end Dn

/-! a plain run that is stepped as it is asked for -/
namespace Dn
open PySem PySem.Spec PyProof.Rows L2
section
variable {Z : Hst} {Nd : Nat → Str → Prop} {h : Hs} {T : Nat}
end
end Dn

/-! a loop that goes on while a question about its count is true -/
namespace Dn
open PySem PySem.Spec PyProof.Rows L2
end Dn

/-! two tuples of the same items -/
namespace Dn
open PySem PySem.Spec PyProof.Rows L2
end Dn

/-! tuple(x), of which the object is known; dict(x) of such a tuple of pairs, or of a list -/
namespace Dn
open PySem PySem.Spec PyProof.Rows L2
section
variable {prog : Program} {w : World} {A : Around} {E : Value → Shared → Prop}
end
section
variable {X : Cx}
end
/-! ### denotations -/
end Dn

/-! a house with failings keeps to the plain run: writing down, failings, the begin -/
/-! a house that never fails, whatever its cutting -/
namespace Dn
open PySem PySem.Spec PyProof.Rows L2
abbrev NF : Nat → Str → Prop := fun _ _ => False
section
variable {Z : Hst} {Nd : Nat → Str → Prop} {h g : Hs} {n0 n M X N T : Nat}
/-! ### the relation -/
structure Ar0 (Z : Hst) (h : Hs) (n0 n : Nat) : Prop where
  C : Com Z NF h n0 n n
  A : ArOk Z NF h n0 n
  bx : ∀ b, h.worth (.x b) = (Z.run n).box b
  hm : ∀ p, Z.IsP p → Z.twin p.1 = true → h.homeV p = (Z.run n0).hv p
  h0 : n0 ≤ n
  fi : h.fin = none
structure Go0 (Z : Hst) (h : Hs) (n0 n : Nat) : Prop where
  A : Ar0 Z h n0 n
  kp : n0 < n → agt Z.keepsL (Z.run n).at_ = none
structure Rest0 (Z : Hst) (h : Hs) (n0 n : Nat) : Prop where
  al : (Z.run n).res = none
  so : (Z.run (n + 1)).res.isSome = true
  fi : h.fin = (Z.run (n + 1)).res
  le : h.letters = (Z.run (n + 1)).gone
  re : h.rent = false
  cn : (h.page h.front).done = n0
  kp : n0 < n → agt Z.keepsL (Z.run n).at_ = none
  h0 : n0 ≤ n
  nt : ∀ p, Z.IsP p → Z.twin p.1 = false → h.homeV p = (Z.run (n + 1)).hv p
  tw : ∀ p, Z.IsP p → Z.twin p.1 = true → h.homeV p = (Z.run n0).hv p
  sp : ∀ p, (Z.run (n + 1)).hv p = (Z.run n).hv p
  at_ : (Z.run (n + 1)).at_ = (Z.run n).at_
inductive Sim0 (Z : Hst) (h : Hs) (n : Nat) : Prop
  | up (e : h = Z.init) (hn : n = 0) : Sim0 Z h n
  | go {n0 : Nat} (hp : h.ph = .go (Z.run n).at_) (G : Go0 Z h n0 n) : Sim0 Z h n
  | keep {n0 j : Nat} {bs : List Str} {g : Hs} (A : Ar0 Z g n0 n) (hk : agt Z.keepsL (Z.run n).at_ = some bs) (hj : j < (g.small (Z.run n).at_ bs).length)
      (e : h = { ((g.small (Z.run n).at_ bs).take j).foldl Hs.deed g with ph := .keep (Z.run n).at_ (g.small (Z.run n).at_ bs) j }) : Sim0 Z h n
  | rest {n0 m : Nat} (hn : n = m + 1) (hp : h.ph = .rest) (E : Rest0 Z h n0 m) : Sim0 Z h n
theorem Sim0.at_go {i : Nat} (S : Sim0 Z h n) (hp : h.ph = .go i) : ∃ n0, i = (Z.run n).at_ ∧ Go0 Z h n0 n := by
  cases S with
  | up e hn => rw [e] at hp; cases hp
  | @go n0 hp2 G => rw [hp] at hp2; cases hp2; exact ⟨n0, rfl, G⟩
  | keep A hk hj e => rw [e] at hp; cases hp
  | rest hn hp2 E => rw [hp] at hp2; cases hp2
end
end Dn

/-! a house with failings keeps to the plain run: writing down, failings, the begin -/
/-! == of dicts whose keys are tuples -/
namespace Dn
open PySem PySem.Spec PyProof.Rows L2
section
variable {prog : Program} {w : World} {K : Type} [DecidableEq K] {knd : HeapKind prog w K} {A : Around} {E : Value → Shared → Prop} {s : Shared}
end
section
variable {X : Cx}
end
section
variable {X : Cx} {a b : Expr} {f g : DE} {pos : Pos}
end
end Dn

/-! home as a dict; writing down, step by step -/
namespace Dn
open PySem PySem.Spec PyProof.Rows L2
section
variable {Z : Hst} {g : Pl → Int}
end
/-! ### writing down -/
def Hs.D (g : Hs) (r : Nat) (bs : List Str) (j : Nat) : Hs := ((g.small r bs).take j).foldl Hs.deed g
section
variable {Z : Hst} {g : Hs} {r : Nat} {bs : List Str}
end
end Dn

/-! == of lists whose first element is a dict with tuple keys -/
namespace Dn
open PySem PySem.Spec PyProof.Rows L2
section
variable {prog : Program} {w : World} {A : Around} {s : Shared}
end
section
variable {X : Cx}
end
section
variable {X : Cx} {a b : Expr} {f g : DE} {pos : Pos}
end
/-! ### a dict that is not empty -/
section
variable {X : Cx}
end
section
variable {X : Cx} {a b : Expr} {f g : DE} {pos : Pos}
end
end Dn

/-! how far a breath comes -/
namespace Dn
open PySem PySem.Spec PyProof.Rows L2
section
variable {Z : Hst} {Nd : Nat → Str → Prop} {h : Hs} {N T X : Nat}
end
end Dn

/-! which page counts; how often the plain run comes to a keeping-place -/
namespace Dn
open PySem PySem.Spec PyProof.Rows L2
section
variable {Z : Hst} {Nd : Nat → Str → Prop} {h : Hs} {N T X : Nat}
def PgK (Z : Hst) (p : Pg) : Prop := p.done = 0 ∨ ∃ bs, agt Z.keepsL p.row = some bs
structure Hs.PK (Z : Hst) (h : Hs) : Prop where
  p0 : PgK Z h.p0
  p1 : PgK Z h.p1
  ph : ∀ r l k, h.ph = .keep r l k → (∃ bs, agt Z.keepsL r = some bs) ∧ ∀ r', Dd.page r' ∈ l → r' = r
theorem Hs.PK.like (Y : h.PK Z) {h' : Hs} (a : h'.p0 = h.p0) (b : h'.p1 = h.p1) (c : ∀ r l k, h'.ph = .keep r l k → (∃ bs, agt Z.keepsL r = some bs) ∧ ∀ r', Dd.page r' ∈ l → r' = r) : h'.PK Z := ⟨by rw [a]; exact Y.p0, by rw [b]; exact Y.p1, c⟩
theorem Hs.PK.setBack (Y : h.PK Z) {p : Pg} (hp : PgK Z p) : (h.setBack p).PK Z := by
  unfold Hs.setBack
  split
  · exact ⟨hp, Y.p1, Y.ph⟩
  · exact ⟨Y.p0, hp, Y.ph⟩
theorem Hs.PK.page (Y : h.PK Z) (b : Bool) : PgK Z (h.page b) := by
  cases b
  · exact Y.p0
  · exact Y.p1
theorem Hs.PK.deed (Y : h.PK Z) {d : Dd} (hd : ∀ r, d = .page r → ∃ bs, agt Z.keepsL r = some bs) : (h.deed d).PK Z := by
  cases d with
  | page r => exact Y.setBack (.inr (hd r rfl))
  | box x v => exact Y.setBack (p := { h.back with held := h.back.held ++ [(x, v)] }) (Y.page (!h.front))
  | turn p v => exact Y.setBack (p := { h.back with turned := h.back.turned ++ [(p, v)] }) (Y.page (!h.front))
  | face => exact Y.like rfl rfl Y.ph
  | home p v => exact Y.like rfl rfl Y.ph
theorem Hs.PK.step (Y : h.PK Z) : (h.step Z).PK Z := by
  unfold Hs.step
  split
  · exact Y
  · split
    · exact Y.like rfl rfl (fun r l k e => nomatch e)
    · exact Y.like rfl rfl (fun r l k e => nomatch e)
  · split
    · exact Y
    · rename_i i _ r hr
      obtain ⟨a, b⟩ := row_pages (Z := Z) (h := { h with done := h.done + 1 }) r
      split
      · exact Y.like a b (fun r l k e => nomatch e)
      · unfold Hs.come
        split
        · exact Y.like a b (fun r l k e => nomatch e)
        · rename_i bs e
          refine Y.like a b fun r' l k e2 => ?_
          injection e2 with e3 e4 e5
          refine ⟨⟨bs, by rw [← e3]; exact e⟩, fun r2 hx => ?_⟩
          rw [← e4] at hx
          unfold Hs.small at hx
          simp only [List.mem_append, List.mem_cons, List.mem_map, List.not_mem_nil, or_false, reduceCtorEq, false_or, and_false, exists_false] at hx
          rw [← e3]
          injection hx
  · rename_i r l k hp
    split
    · exact Y
    · rename_i d hd
      have hK := Y.ph r l k hp
      have D := Y.deed (d := d) fun r' e => by
        have := hK.2 r' (by rw [← e]; exact List.mem_of_getElem? hd)
        rw [this]
        exact hK.1
      split
      · refine D.like rfl rfl fun r' l' k' e => ?_
        injection e with e1 e2 e3
        rw [← e1, ← e2]
        exact hK
      · exact D.like rfl rfl (fun r l k e => nomatch e)
end
end Dn

/-! a tuple + a tuple whose object is known -/
namespace Dn
open PySem PySem.Spec PyProof.Rows L2
section
variable {X : Cx} {a b : Expr} {f g : DE} {pos : Pos}
end
end Dn

/-! zip over two lists, read place by place; in range(n); a slice with a step as a cell; what is never reached -/
namespace Dn
open PySem PySem.Spec PyProof.Rows L2
/-! ### in range(n) -/
section
variable {X : Cx}
end
/-! ### a slice with a step, as a cell -/
section
variable {X : Cx} {e : Expr} {te : TE} {lo hi : Option Expr} {tl th : TO} {pos p1 p2 p3 : Pos} {k : Int} {kk : Nat}
end
end Dn

/-! zip of a list and a text -/
namespace Dn
open PySem PySem.Spec PyProof.Rows L2
section
variable {X : Cx} {e : Expr} {fa : DA}
end
end Dn

/-! a house driven, against the plain run, and how many steps there may be -/
namespace Dn
open PySem PySem.Spec PyProof.Rows L2
section
variable {Z : Hst} {Nd : Nat → Str → Prop} {E c bm : Nat}
end
end Dn

/-! a head looked at by parts, with less memory -/
namespace Dn
open PySem PySem.Spec PyProof.Rows L2
end Dn

/-! sorted(a tuple of data) -/
namespace Dn
open PySem PySem.W PySem.Calls PyProof.Rows
section
variable {prog : Program} {w : World} {A : Around} {E : Value → Shared → Prop} {s : Shared}
end
end Dn
namespace L2
open PySem PySem.Spec PyProof.Rows PySem.W
end L2
namespace Dn
open PySem PySem.Spec PyProof.Rows L2 PySem.W
end Dn

/-! how many steps there may be, told finer: what is written by hand is no more than the rows done -/
namespace Dn
open PySem PySem.Spec PyProof.Rows L2
abbrev Hs.pgl (h : Hs) : Prop := (h.page h.front).turned.length ≤ (h.page h.front).done
inductive Lg (h : Hs) : Prop
  | up {k : Nat} (hp : h.ph = .up k) (l : h.log = []) (p : h.pgl)
  | go {i : Nat} (hp : h.ph = .go i) (p : h.pgl) (l : h.log.length ≤ h.done)
  | keep {r j : Nat} {bs : List Str} {g : Hs} (p : g.pgl) (l : g.log.length ≤ g.done) (hj : j < (g.small r bs).length) (e : h = { ((g.small r bs).take j).foldl Hs.deed g with ph := .keep r (g.small r bs) j })
  | rest (hp : h.ph = .rest)
section
variable {Z : Hst} {Nd : Nat → Str → Prop} {h g : Hs} {N T E b : Nat}
theorem row_lg (h : Hs) (r : PRow) : (Hs.row Z h r).log.length ≤ h.log.length + 1 ∧ (Hs.row Z h r).done = h.done ∧ (Hs.row Z h r).front = h.front ∧ (Hs.row Z h r).p0 = h.p0 ∧ (Hs.row Z h r).p1 = h.p1 := by
  have wr : ∀ (p : Pl) (v : Int), (h.written Z p v).log.length ≤ h.log.length + 1 ∧ (h.written Z p v).done = h.done ∧ (h.written Z p v).front = h.front ∧ (h.written Z p v).p0 = h.p0 ∧ (h.written Z p v).p1 = h.p1 := fun p v => by
    unfold Hs.written
    split
    · exact ⟨apt_len, rfl, rfl, rfl, rfl⟩
    · exact ⟨Nat.le_succ _, rfl, rfl, rfl, rfl⟩
  have sy : ∀ v : Int, (h.say v).log.length ≤ h.log.length + 1 ∧ (h.say v).done = h.done ∧ (h.say v).front = h.front ∧ (h.say v).p0 = h.p0 ∧ (h.say v).p1 = h.p1 := fun v => by
    unfold Hs.say
    split <;> exact ⟨Nat.le_succ _, rfl, rfl, rfl, rfl⟩
  cases r with
  | say a => exact sy _
  | store c a => exact wr _ _
  | lay s a b => exact wr _ _
  | _ => exact ⟨Nat.le_succ _, rfl, rfl, rfl, rfl⟩
theorem pgl_of (h1 : g.front = h.front) (h2 : g.p0 = h.p0) (h3 : g.p1 = h.p1) (p : h.pgl) : g.pgl := by
  unfold Hs.pgl Hs.page at p ⊢
  rw [h1, h2, h3]
  exact p
theorem Lg.init : Lg Z.init := .up rfl rfl (Nat.le_refl _)
theorem Lg.step (L : Lg h) : Lg (h.step Z) := by
  cases L with
  | rest hp => rw [step_rest hp]; exact .rest hp
  | @up k hp l p =>
    rw [step_up hp]
    cases ht : (h.page h.front).turned[k]? with
    | some q => exact .up (k := k + 1) rfl l p
    | none => exact .go rfl p (by show h.log.length ≤ _; rw [l]; exact Nat.zero_le _)
  | @go i hp p l =>
    cases hr : Z.rows[i]? with
    | none =>
      have : h.step Z = h := by
        unfold Hs.step
        rw [hp]
        simp only [hr]
      rw [this]
      exact .go hp p l
    | some r =>
      rw [step_go hp hr]
      by_cases he : isEnd r = true
      · rw [if_pos he]
        exact .rest rfl
      · rw [if_neg he]
        obtain ⟨a1, a2, a3, a4, a5⟩ := row_lg (Z := Z) { h with done := h.done + 1 } r
        have a1 : (Hs.row Z { h with done := h.done + 1 } r).log.length ≤ h.log.length + 1 := a1
        have a2 : (Hs.row Z { h with done := h.done + 1 } r).done = h.done + 1 := a2
        have pg : (Hs.row Z { h with done := h.done + 1 } r).pgl := pgl_of (h := h) a3 a4 a5 p
        have lg : (Hs.row Z { h with done := h.done + 1 } r).log.length ≤ (Hs.row Z { h with done := h.done + 1 } r).done := by rw [a2]; omega
        unfold Hs.come
        cases hk : agt Z.keepsL (h.next i r) with
        | none => exact .go rfl pg lg
        | some bs => exact .keep (g := Hs.row Z { h with done := h.done + 1 } r) (j := 0) pg lg (by rw [small_len]; omega) rfl
  | @keep r j bs g p l hj e =>
    have hd : (g.small r bs)[j]? = some (g.small r bs)[j] := List.getElem?_eq_getElem hj
    have hp : h.ph = .keep r (g.small r bs) j := by rw [e]
    have ed : ((g.small r bs).take (j + 1)).foldl Hs.deed g = (((g.small r bs).take j).foldl Hs.deed g).deed (g.small r bs)[j] := by
      rw [List.take_succ, hd, List.foldl_append]; rfl
    have e2 : h.deed (g.small r bs)[j] = { ((g.small r bs).take (j + 1)).foldl Hs.deed g with ph := .keep r (g.small r bs) j } := by
      rw [e, deed_ph, ed]
    rw [step_keep hp hd, e2]
    by_cases q : j + 1 < (g.small r bs).length
    · rw [if_pos q]
      exact .keep (g := g) p l q rfl
    · rw [if_neg q]
      have el : j + 1 = (g.partA r bs).length + 1 + g.log.length := by
        have := congrArg List.length (small_eq g r bs)
        rw [List.length_append, List.length_cons, List.length_map] at this
        omega
      rw [el, fold_new]
      refine .go rfl ?_ (Nat.zero_le _)
      have := flip_page g (g.newPg r bs) ((g.log.take g.log.length).foldl (fun a p => apt a p.1 p.2) g.home)
      show (({ g.setBack (g.newPg r bs) with front := !g.front, home := (g.log.take g.log.length).foldl (fun a p => apt a p.1 p.2) g.home } : Hs).page (!g.front)).turned.length ≤ (({ g.setBack (g.newPg r bs) with front := !g.front, home := (g.log.take g.log.length).foldl (fun a p => apt a p.1 p.2) g.home } : Hs).page (!g.front)).done
      rw [this]
      exact l
end
end Dn

/-! exceptions that a def catches and keeps: rules of the hand layer -/
namespace Dn
open PySem PySem.Spec PyProof.Rows L2
section
variable {cls : Value} {d a x : Addr}
theorem xcp_ok {P : Program} {w : World} {H : Hp} {h : Heap} {oe : Obj} {vs : Array Value} (e : h.get? a = some oe) (z : Zc cls (some d) oe) (f : oe.data = .fields vs) : ObjOk P w H h a (xcp cls d a) :=
  ⟨⟨oe, vs, e, z, f⟩, ⟨_, e⟩, fun h1 h2 q k => by
    obtain ⟨o, v, q1, q2, q3⟩ := q
    exact ⟨o, v, k _ q1, q2, q3⟩⟩
theorem xcp_at {P : Program} {w : World} {H : Hp} {h : Heap} (hok : HOk P w H h) (e : H a = some (xcp cls d a)) : ∃ (oe : Obj) (vs : Array Value), h.get? a = some oe ∧ Zc cls (some d) oe ∧ oe.data = .fields vs := by
  have x : ObjOk P w H h a (.ext fun h => ∃ (oe : Obj) (vs : Array Value), h.get? a = some oe ∧ Zc cls (some d) oe ∧ oe.data = .fields vs) := hok a _ e
  exact x.1
end
section
variable {X : Cx} {pins : List (Addr × Obj)} {σ : L2.St} {H : Hp} {s : Shared} {a d : Addr} {oe : Obj} {vs : Array Value} {cls : Value}
/-- an exception that stands in the state is kept as a value -/
theorem holdX (I : L2.Inv X pins σ H s) (ha : s.heap.get? a = some oe) (hz : Zc cls (some d) oe) (hd : oe.data = .fields vs) (na : H a = none) (nL : a ≠ X.env.locals) (n0 : X.s_0.heap.get? a = none) (np : ∀ p ∈ X.pn ++ pins, p.1 ≠ a) : L2.Inv X pins σ (upd H a (xcp cls d a)) s := by
  have old : ∀ {b : Addr} {o : HO}, H b = some o → upd H a (xcp cls d a) b = some o := fun {b o} q => by rw [upd_ne (ne_of_none q na)]; exact q
  refine ⟨I.ok, I.os, I.bare, ⟨I.base.keep, I.base.slot, fun b o e n hx => ?_, I.base.there, fun b xs q => old (I.base.tups b xs q), fun b o u q => old (I.base.frzs b o u q), fun b ps q => ?_⟩, I.loc, I.cell, ?_, fun y c e => ?_, fun p hp => ?_, fun b ob e => ?_, I.len⟩
  · have hb : b ≠ a := fun z => by rw [z, n0] at e; cases e
    rw [upd_ne hb]
    exact I.base.free b o e n hx
  · obtain ⟨more, e⟩ := I.base.tbls b ps q
    exact ⟨more, old e⟩
  · rw [upd_ne nL.symm]
    exact I.free
  · have hc : c ≠ a := fun z => by
      obtain ⟨v, o, q1, q2⟩ := I.cell y c e
      rw [z, ha] at q1
      cases q1
      rw [hd] at q2
      cases q2
    rw [upd_ne hc]
    exact I.freeC y c e
  · obtain ⟨e, n, r⟩ := I.pin p hp
    exact ⟨e, by rw [upd_ne (np p hp)]; exact n, r⟩
  · by_cases hb : b = a
    · subst hb
      rw [upd_same] at e
      cases e
      exact xcp_ok ha hz hd
    · rw [upd_ne hb] at e
      exact (I.hok b ob e).stay (fun c v _ q => q) (fun c q => old q) fun c xs q => old q
end
/-! ### try, with the exception kept -/
/-- what such a clause wishes of what the body raises: slot i is the name's -/
def wTry (K : PySem.W.Frag) (c : Value) (i : Nat) (ts : TS) (Wout : WX) (D : Ends) : WX := fun cls d σ H =>
  ∃ b, PySem.W.exmOne K cls c = some b ∧ (b = true → ∃ dd, d = some dd ∧ ∀ a, H a = none → ts ⟨fun σ' H' => D.nx (σ'.set i none) H', D.rt, fun σ' H' => D.bk (σ'.set i none) H', fun σ' H' => D.ct (σ'.set i none) H'⟩ (σ.set i (some (.ref a))) (upd H a (xcp cls dd a))) ∧
    (b = false → Wout cls d σ H)
section
variable {X : Cx} {x n : Str} {c : Value} {i : Nat} {body suite : List Stmt} {b₀ : Stmt} {np pos pos' : Pos} {tb : WX → TS} {ts : TS} {Wout : WX}
theorem ps_tryX (hs : X.stack = X.env :: X.outer) (hf : X.env.frame = some X.env.locals) (hex : X.ex = []) (hN : X.N.Nodup) (hi : X.N[i]? = some n) (hln : X.env.kindOf n = some .local) (hc : Names X x c) (tk : Takes X Wout)
    (hb : ∀ (W : WX) (pn : List (Addr × Obj)) (xe : Value → Shared → Prop), Takes (X.tr pn xe) W → PassesOwn (model X.prog X.w) X.A X.env xe → PSs (X.tr pn xe) body (tb W))
    (hsu : ∀ (a : Addr) (pn : List (Addr × Obj)), PSs (X.suite a pn) (b₀ :: suite) ts) :
    PS X (.Try body [.ExceptHandler (some (.Name x np)) (some n) (b₀ :: suite) pos'] [] [] pos) (fun D σ H => tb (wTry X.K c i ts Wout D) D σ H) := by
  refine ⟨fun pins s σ H D I h => ?_⟩
  have ok := I.ok
  have frm : X.A.frames = some (X.env :: X.outer) := by rw [ok.frames, hs]
  let catch_ : Value → Shared → Prop := fun e s1 => wpAny (model X.prog X.w) X.A (noteFrame e X.env) (fun _ s2 => wpAny (model X.prog X.w) X.A (setFlight e none) (fun _ s3 =>
    wpAny (model X.prog X.w) X.A (handleBy e X.env [.ExceptHandler (some (.Name x np)) (some n) (b₀ :: suite) pos']) (SP X pins D) X.xe s3) X.xe s2) X.xe s1
  have catches : Takes (X.tr (X.pn ++ pins) catch_) (wTry X.K c i ts Wout D) := fun u s' xx => by
    obtain ⟨a, B, sI, pins', σ', H', cls, d, rfl, J', nb, up, sky, na, os, ag, b, hb1, hyes, hno⟩ := xx
    have J : L2.Inv X pins σ' H' sI := J'.ofTry ok
    have sky2 : Sky B (X.env :: X.outer) a (Zc cls d) X.env.locals s'.heap := hs ▸ sky
    show wpAny (model X.prog X.w) X.A (noteFrame (.ref a) X.env) _ _ _
    refine Sky.land Zc.steady frm hf sky2 fun h3 fl3 up3 => ?_
    have J3 : L2.Inv X pins σ' H' { s' with heap := h3 } := J.landed nb fl3.1 (up.trans up3) os ag
    obtain ⟨oe3, vs3, he3, hz3, hd3⟩ := fl3.there
    have B0 : B.get? a = none := fl3.2.1
    have notIn : a ∉ frs (X.env :: X.outer) := fun hm => by
      obtain ⟨_, o', e', hnf⟩ := fl3.2.2.1.mem hm
      rw [he3] at e'
      cases e'
      exact hnf _ hd3
    have nL : a ≠ X.env.locals := fun z => notIn (List.mem_filterMap.mpr ⟨X.env, List.mem_cons_self, by rw [hf, z]⟩)
    have inFr : ∀ {b : Addr}, b ≠ X.env.locals → b ∉ X.fs → b ∉ frs X.stack := fun {b} h1 h2 hm => by
      rw [hs] at hm
      obtain ⟨e, he, q⟩ := List.mem_filterMap.mp hm
      rcases List.mem_cons.mp he with z | z
      · rw [z, hf] at q
        exact h1 (Option.some.inj q).symm
      · exact h2 (List.mem_filterMap.mpr ⟨e, z, q⟩)
    have nI : sI.heap.get? a = none := by
      cases e : sI.heap.get? a with
      | none => rfl
      | some o =>
        have := nb a o e (by rw [hs]; exact notIn)
        rw [B0] at this
        cases this
    have n0 : X.s_0.heap.get? a = none := by
      cases e : X.s_0.heap.get? a with
      | none => rfl
      | some o =>
        obtain ⟨o', e'⟩ := J.base.there a o e (by rw [hex]; exact List.not_mem_nil)
        rw [nI] at e'
        cases e'
    have pinNe : ∀ p ∈ X.pn ++ pins, p.1 ≠ a := fun p hp z => by
      obtain ⟨e, _⟩ := J.pin p hp
      rw [z, nI] at e
      cases e
    refine wpAny_handleBy_cons (codeAny_handlers_test ?_) (fun q => nomatch q)
    have LT : PySem.W.Looks (model X.prog X.w) h3 (typeOf (.ref a)) cls := fun A Q E s k q => wpAny_typeOf_ref (k _ _ he3) (by rw [hz3.1]; exact q)
    have LM := PySem.W.exm_one (M := model X.prog X.w) (J3.kIn) LT hb1
    have S3 : L2.Inv (X.suite a (X.pn ++ pins)) [] σ' H' { s' with heap := h3 } := ⟨ok.suite _ _, J3.os, J3.bare, J3.base, J3.loc, J3.cell, J3.free, J3.freeC, fun p hp => J3.pin p (by rw [List.append_nil] at hp; exact hp), J3.hok, J3.len⟩
    have test : ∀ {Q : Value → Shared → Prop} {E : Value → Shared → Prop}, Q c { s' with heap := h3 } → wpAny (model X.prog X.w) (X.A.mark (some (.ref a))) (eval (.Name x np) X.env) Q E { s' with heap := h3 } := fun {Q E} q => by
      obtain ⟨hg, hdbg, hm | ⟨hm, hv, hnn⟩⟩ := hc
      · exact ld_glob (X := X.suite a (X.pn ++ pins)) S3 hg hm q hdbg
      · exact ld_blt (X := X.suite a (X.pn ++ pins)) S3 hg hm hv q hnn hdbg
    refine test (LM.here ?_)
    cases b with
    | true =>
      obtain ⟨dd, ed, hyes⟩ := hyes rfl
      refine codeAny_handlers_suite_as (HandSPX.lands_againZ fl3 fun h4 fl4 up4 => ?_)
      have J4 : L2.Inv X pins σ' H' { s' with heap := h4 } := J.landed nb fl4.1 ((up.trans up3).trans up4) os ag
      obtain ⟨oe4, vs4, he4, hz4, hd4⟩ := fl4.there
      have K4 : L2.Inv X pins σ' (upd H' a (xcp cls dd a)) { s' with heap := h4 } := holdX J4 he4 (by rw [← ed]; exact hz4) hd4 na nL n0 pinNe
      have S4 : L2.Inv (X.suite a (X.pn ++ pins)) [] σ' (upd H' a (xcp cls dd a)) { s' with heap := h4 } := ⟨ok.suite _ _, K4.os, K4.bare, K4.base, K4.loc, K4.cell, K4.free, K4.freeC, fun p hp => K4.pin p (by rw [List.append_nil] at hp; exact hp), K4.hok, K4.len⟩
      refine store_ok (X := X.suite a (X.pn ++ pins)) (v := .ref a) S4 hN hi (.inl hln) rfl (fun s5 S5 => ?_) (.inr hln)
      refine wpAny_mono ((hsu a (X.pn ++ pins)).run [] s5 _ _ _ S5 (hyes a na)) (fun f s6 hsp => ?_) (fun _ _ z => False.elim z)
      have fin : ∀ {σ6 : L2.St} {H6 : Hp} {Q : Shared → Prop}, L2.Inv (X.suite a (X.pn ++ pins)) [] σ6 H6 s6 → (∀ s7, L2.Inv X pins (σ6.set i none) H6 s7 → Q s7) →
          wpAny (model X.prog X.w) X.A (do bindName X.env n .none; unbindBehindTheSuite X.env n pos') (fun _ s7 => Q s7) X.xe s6 := fun {σ6 H6 Q} S6 hq =>
        gone_ok (X := X) (pins := pins) ⟨ok, S6.os, S6.bare, S6.base, S6.loc, S6.cell, S6.free, S6.freeC, fun p hp => S6.pin p (List.mem_append_left _ hp), S6.hok, S6.len⟩ hN hi hln hq
      cases f with
      | next =>
        obtain ⟨σ6, H6, S6, q6⟩ := hsp
        exact fin S6 fun s7 J7 => ⟨_, _, J7, q6⟩
      | brk =>
        obtain ⟨σ6, H6, S6, q6⟩ := hsp
        exact fin S6 fun s7 J7 => ⟨_, _, J7, q6⟩
      | cont =>
        obtain ⟨σ6, H6, S6, q6⟩ := hsp
        exact fin S6 fun s7 J7 => ⟨_, _, J7, q6⟩
      | ret u =>
        obtain ⟨v6, σ6, H6, S6, r6, q6⟩ := hsp
        exact fin S6 fun s7 J7 => ⟨_, _, _, J7, r6, q6⟩
    | false =>
      show wpAny _ X.A (handleBy (.ref a) X.env []) _ _ _
      refine wpAny_handleBy_nil ?_
      obtain ⟨k1, k2, k3, oe, vs, T, oT, ts', he, hz, hd, h1, hr⟩ := id fl3
      unfold PySem.passOn
      refine wpAny_bind (wpAny_field he hd h1 ?_)
      rw [if_neg (show ¬ ((Value.ref T == Value.none) = true) from by simp)]
      have on : wpAny (model X.prog X.w) X.A (setFlight (.ref a) X.env.frame) (fun _ s4 => wpAny (model X.prog X.w) X.A (throw (.ref a) : Sem Flow) (SP X pins D) X.xe s4) X.xe { s' with heap := h3 } := by
        rw [hf]
        refine HandSPX.setFlight_upZ fl3 fun h4 hh4 up4 => wpAny_throw (tk _ _ ?_)
        exact ⟨a, B, sI, pins, σ', H', cls, d, rfl, J, nb, (up.trans up3).trans up4, .inr (.inr (by rw [hs]; exact hh4)), na, os, ag, hno rfl⟩
      first
        | exact wpAny_bind (wpAny_pure (wpAny_bind on))
        | exact wpAny_bind on
  refine wpAny_Try_except (wpAny_mono ((hb _ (X.pn ++ pins) catch_ catches PassesOwn.looking).run [] s σ H D (I.toTry _) h) (fun f s1 hsp => ?_) fun e s1 he => he)
  cases f with
  | next =>
    obtain ⟨σ', H', J', q⟩ := hsp
    exact wpAny_execs_nil ⟨σ', H', J'.ofTry ok, q⟩
  | brk =>
    obtain ⟨σ', H', J', q⟩ := hsp
    exact ⟨σ', H', J'.ofTry ok, q⟩
  | cont =>
    obtain ⟨σ', H', J', q⟩ := hsp
    exact ⟨σ', H', J'.ofTry ok, q⟩
  | ret u =>
    obtain ⟨v, σ', H', J', r, q⟩ := hsp
    exact ⟨v, σ', H', J'.ofTry ok, r, q⟩
end
end Dn

/-! exceptions of own classes: made, asked for their class, their fields read -/
namespace Dn
open PySem PySem.Spec PyProof.Rows L2
/-! ### the facts of a class -/
structure ExcF (K : PySem.W.Frag) (C : Addr) (fI : Addr) (ns : List Str) : Prop where
  o : OexC K C
  i : PySem.W.findIn K (.ref C) "__init__" = some (some (.ref fI))
  ti : PySem.W.typeIn K (.ref fI) = some (.type "function")
  x : XfC K C
  ca : PySem.W.findIn K (.ref C) "__class__" = some (some (.builtin "object.__class__"))
  m : PySem.W.mroIn K C (.type "object") = some true
  n : ∀ n ∈ ns, PySem.W.findIn K (.ref C) n = some none
theorem excB_ok {K : PySem.W.Frag} {C : Str} {ns : List Str} (h : excB K C ns = true) : ExcF K (He.ga K C) (He.ma K (He.ga K C) "__init__") ns := by
  obtain ⟨h0, h⟩ := He.ba h
  obtain ⟨h1, h⟩ := He.ba h
  obtain ⟨h2, h⟩ := He.ba h
  obtain ⟨h3, h⟩ := He.ba h
  obtain ⟨h4, h⟩ := He.ba h
  obtain ⟨h5, h⟩ := He.ba h
  obtain ⟨h6, h⟩ := He.ba h
  obtain ⟨h7, h⟩ := He.ba h
  obtain ⟨h8, h⟩ := He.ba h
  obtain ⟨h9, h⟩ := He.ba h
  obtain ⟨h10, h⟩ := He.ba h
  obtain ⟨h11, h12⟩ := He.ba h
  have cls : ∃ nm q N bs bm sn sub ab col dd k0 k1 k2 k3 k5, K.lookup (He.ga K C) = some (excClassObj nm q (He.ga K C) N bs bm true sn sub ab col dd k0 k1 k2 k3 k5 "ValueError.__new__") ∧ PySem.HandSPX.refsVE bm = true := by
    split at h0
    · rename_i dd cd sl ho
      split at h0
      · rename_i C' bm k0 k1 k2 k3 n k5 hm hs
        simp only [Bool.and_eq_true, beq_iff_eq, Bool.not_eq_true'] at h0
        obtain ⟨rfl, rfl, hdel, hdict, hr⟩ := h0
        obtain ⟨nm, bs, mro, ns, qn, hd, sn, sub, ab, col, del⟩ := cd
        dsimp only at hm hdel hdict
        subst hm hdel hdict
        obtain ⟨l⟩ := sl
        simp only at hs
        subst hs
        exact ⟨nm, qn, ns, bs, bm, sn, sub, ab, col, dd, k0, k1, k2, k3, k5, ho, hr⟩
      · cases h0
    · cases h0
  exact ⟨⟨cls, He.eqO_ok h1, of_decide_eq_true h2, of_decide_eq_true h3, h4⟩, He.eqO_ok h5, of_decide_eq_true h6, ⟨He.eqO_ok h7, He.eqO_ok h8, of_decide_eq_true h2, h9⟩, He.eqO_ok h10, of_decide_eq_true h11, fun n hn => He.eqO_ok (List.all_eq_true.mp h12 n hn)⟩
/-! ### __init__ -/
/-- self.f = f, for each parameter -/
def spI (K : PySem.W.Frag) (C : Addr) (ps : List Str) : Sp := fun vs H Q _ => ∃ (e : Addr) (xs : List V), vs = .ref e :: xs ∧ xs.length = ps.length ∧ H e = some (exo e C none) ∧
  ∀ (H' : Hp) (dx : Addr), H dx = none → dx ≠ e → H' dx = some (exd dx (ps.reverse.zip xs.reverse)) → H' e = some (exo e C (some dx)) → (∀ b, b ≠ dx → b ≠ e → H' b = H b) → Q .non H'
section
variable {P : Program} {w : World} {K : PySem.W.Frag} {mg : Str → Option Value} {base : Heap} {qual f1 f2 : Str} {params : Arguments} {body : List Stmt} {scope : Scope} {a C fI : Addr} {fd : FuncData} {ns : List Str}
theorem init1_ok (F : FunD K "__init__" qual params body scope [] [] a fd) (S : FnScope ["self", f1] ["self", f1] scope) (T : ExcF K C fI ns) (hn : f1 ∈ ns)
    (hb : ∀ (cdv : Value) (A : Around) (outer : List Env) (s : Shared) (H : Hp) (E : XK), PSs (cxOf CX0 P w K mg base ["self", f1] qual scope a cdv A outer s H E) body (tOst K f1 (tVar 0) (tVar 1))) : FnOk P w K mg base CX0 1 a fd ["self", f1] (spI K C [f1]) := by
  refine F.ok (k := 0) S (fun vs H Q E h => ?_) fun cdv A outer s H vs Q E hr h => ⟨tOst K f1 (tVar 0) (tVar 1), hb cdv A outer s H E, ?_⟩
  · obtain ⟨e, xs, rfl, hl, _⟩ := h
    rw [List.length_cons, hl]; rfl
  · obtain ⟨e, xs, rfl, hl, he, hq⟩ := h
    match xs, hl with
    | [y], _ =>
      refine ⟨y, rfl, .ref e, rfl, e, C, rfl, T.o, T.n _ hn, .inl ⟨he, fun dx hdx hne => hq _ dx hdx hne ?_ upd_same fun b h1 h2 => ?_⟩⟩
      · rw [upd_ne hne, upd_same]; rfl
      · rw [upd_ne h2, upd_ne h1]
theorem init2_ok (F : FunD K "__init__" qual params body scope [] [] a fd) (S : FnScope ["self", f1, f2] ["self", f1, f2] scope) (T : ExcF K C fI ns) (hn : f1 ∈ ns) (hn2 : f2 ∈ ns)
    (hb : ∀ (cdv : Value) (A : Around) (outer : List Env) (s : Shared) (H : Hp) (E : XK), PSs (cxOf CX0 P w K mg base ["self", f1, f2] qual scope a cdv A outer s H E) body (tSeq (tOst K f1 (tVar 0) (tVar 1)) (tOst K f2 (tVar 0) (tVar 2)))) : FnOk P w K mg base CX0 1 a fd ["self", f1, f2] (spI K C [f1, f2]) := by
  refine F.ok (k := 0) S (fun vs H Q E h => ?_) fun cdv A outer s H vs Q E hr h => ⟨tSeq (tOst K f1 (tVar 0) (tVar 1)) (tOst K f2 (tVar 0) (tVar 2)), hb cdv A outer s H E, ?_⟩
  · obtain ⟨e, xs, rfl, hl, _⟩ := h
    rw [List.length_cons, hl]; rfl
  · obtain ⟨e, xs, rfl, hl, he, hq⟩ := h
    match xs, hl with
    | [y, z], _ =>
      refine ⟨y, rfl, .ref e, rfl, e, C, rfl, T.o, T.n _ hn, .inl ⟨he, fun dx hdx hne => ⟨z, rfl, .ref e, rfl, e, C, rfl, T.o, T.n _ hn2, .inr ⟨dx, [(f1, y)], upd_same, by rw [upd_ne hne, upd_same], by show 1 ≤ 900; decide, hq _ dx hdx hne upd_same ?_ fun b h1 h2 => ?_⟩⟩⟩⟩
      · rw [upd_ne hne.symm, upd_same]
      · rw [upd_ne h1, upd_ne h2, upd_ne h1]
end
/-! ### C(e, ..) -/
structure XcC (P : Program) (w : World) (K : PySem.W.Frag) (mg : Str → Option Value) (base : Heap) (C : Str) (ps : List Str) : Prop where
  g : mg C = some (.ref (He.ga K C))
  t : ExcF K (He.ga K C) (He.ma K (He.ga K C) "__init__") ps
  fn : ∃ fd : FuncData, FnOk P w K mg base CX0 1 (He.ma K (He.ga K C) "__init__") fd ("self" :: ps) (spI K (He.ga K C) ps) ∧ Binds K fd ("self" :: ps) []
section
variable {X : Cx} {x : Str} {ps : List Str} {j : Nat} {e : Expr} {es : List Expr} {fa : DA} {p pos : Pos}
/-- what a made exception is, behind its making -/
def rdMk (K : PySem.W.Frag) (C : Str) (ps : List Str) (fa : DA) : L2.St → Hp → XK → Prop := fun σ H Q => ∃ F S ρ ds S', F.K = K ∧ Rep F S H ∧ RelE F ρ σ ∧ fa ρ S = some (ds, S') ∧ ds.length = ps.length ∧ ds.length ≤ 1000 ∧
  ∀ F' H' d xs, Le F F' → Rep F' S' H' → F'.G d = some (.xd (ps.reverse.zip xs)) → RelL F' ds.reverse xs → Q (.ref (He.ga K C)) (some d) H'
theorem pmk_exc (M : XcC X.prog X.w X.K X.mg X.base x ps) (hr : Room j X.A) (hj : 2 ≤ j) (hg : Gl X x) (ha : AD X (e :: es) fa) (hdb : (x == ("__debug__" : Str)) = false := by decide)
    (he : starEach (e :: es) X.env = (false, eval e X.env) :: starEach es X.env := by rfl) (hpl : (backTo pos (starEach es X.env)).any (·.1) = false := by rfl) :
    PMk X (.Call (.Name x p) (e :: es) [] pos) (rdMk X.K x ps fa) := by
  obtain ⟨fd, h1, h2⟩ := M.fn
  have key := pmk_oex (p := p) (CX := CX0) (ds := []) (dvs := []) M.t.o M.t.i M.t.ti h1 (hr.mono hj) h2 .nil (fun _ _ _ _ _ _ _ h => h.elim) hg M.g ha.pa hdb he hpl
  refine fun pins s σ H Q I h => key pins s σ H Q I ?_
  obtain ⟨F, S, ρ, ds, S', hk, R, rr, hf, hl, hz, hq⟩ := h
  refine rdA.go hk R rr hf fun F1 H1 vs le hk1 R1 r1 rv => ⟨by rw [← rv.length]; exact hz, fun a hna => ?_⟩
  refine ⟨a, vs ++ [], rfl, by rw [List.append_nil, ← rv.length]; exact hl, upd_same, fun H2 dx hdx hne e1 e2 e3 => ⟨rfl, dx, _, e2, e1, ?_, ?_⟩⟩
  · rw [upd_ne hne] at hdx
    exact hdx
  · rw [upd_ne hne] at hdx
    have eH : upd (del H2 a) dx (.xd (ps.reverse.zip (vs ++ []).reverse)) = upd H1 dx (.xd (ps.reverse.zip (vs ++ []).reverse)) := by
      funext b
      by_cases hb : b = dx
      · rw [hb, upd_same, upd_same]
      · rw [upd_ne hb, upd_ne hb]
        by_cases hba : b = a
        · rw [hba, del_same, hna]
        · rw [del_ne hba, e3 b hb hba, upd_ne hba]
    rw [eH]
    have rv' : RelL F1 ds (vs ++ []) := by rw [List.append_nil]; exact rv
    obtain ⟨R2, le2⟩ := R1.add (o := .xd (ps.reverse.zip (vs ++ []).reverse)) hdx
    exact hq _ _ dx _ (le.trans le2) R2 upd_same (RelL.rev (rv'.le le2))
/-- a made exception as a value -/
theorem pe_made {t : L2.St → Hp → XK → Prop} (h : PMk X e t) : PE X e (fun σ H Q => t σ H fun cls d H' => ∃ dd, d = some dd ∧ ∀ a, H' a = none → Q (.ref a) (upd H' a (xcp cls dd a))) := by
  refine ⟨fun pins s σ H Q I hw => wpAny_mono (h pins s σ H _ I hw) (fun u s' hu => ?_) fun _ _ z => z⟩
  obtain ⟨a, oe, vs, sI, H', cls, d, rfl, J, k, ne, he, hz, hd, h1, na, os, ag, r, dd, ed, q⟩ := hu
  have nb : ∀ {b : Addr} {o : Obj}, sI.heap.get? b = some o → b ≠ a := fun {b o} q z => by rw [z, ne] at q; cases q
  have old : ∀ {b : Addr} {o : HO}, H' b = some o → upd H' a (xcp cls dd a) b = some o := fun {b o} q => by rw [upd_ne (ne_of_none q na)]; exact q
  have U : Un (frs X.stack) [] H' (upd H' a (xcp cls dd a)) sI.heap s'.heap :=
    ⟨fun b o q _ _ _ => k b o q, fun b o q _ _ _ => ⟨o.slots, k b o q⟩, fun b o q n _ => by rw [upd_ne (nb q)]; exact n, fun b o q _ => ⟨o, k b o q⟩, fun b xs q => old q, fun b o u q => old q, fun b ps q => ⟨#[], by rw [old q]; simp⟩⟩
  refine ⟨.ref a, _, J.call' os U (fun b o q => ?_) ag (fun b z => absurd z List.not_mem_nil), rfl, q a na⟩
  by_cases hb : b = a
  · subst hb
    rw [upd_same] at q
    cases q
    exact xcp_ok he (by rw [← ed]; exact hz) hd
  · rw [upd_ne hb] at q
    exact (J.hok b o q).stay (fun c v _ q => k c v q) (fun c q => old q) fun c xs q => old q
def dExc (C : Str) (ps : List Str) (fa : DA) : DE := fun ρ S => match fa ρ S with
  | some (xs, S1) => if xs.length = ps.length ∧ xs.length ≤ 1000 then some (.exc C ps.reverse xs.reverse, S1) else none
  | none => none
theorem exc_some {C : Str} {fa : DA} {ρ : Ev} {S S' : Sto} {d : DV} (h : dExc C ps fa ρ S = some (d, S')) : ∃ xs, fa ρ S = some (xs, S') ∧ xs.length = ps.length ∧ xs.length ≤ 1000 ∧ d = .exc C ps.reverse xs.reverse := by
  unfold dExc at h
  cases h1 : fa ρ S with
  | none => rw [h1] at h; cases h
  | some z =>
    obtain ⟨xs, S1⟩ := z
    rw [h1] at h
    obtain ⟨⟨c1, c2⟩, h⟩ := of_ite h
    cases h
    exact ⟨xs, rfl, c1, c2, rfl⟩
theorem ed_exc (M : XcC X.prog X.w X.K X.mg X.base x ps) (hr : Room j X.A) (hj : 2 ≤ j) (hg : Gl X x) (ha : AD X (e :: es) fa) (hdb : (x == ("__debug__" : Str)) = false := by decide)
    (he : starEach (e :: es) X.env = (false, eval e X.env) :: starEach es X.env := by rfl) (hpl : (backTo pos (starEach es X.env)).any (·.1) = false := by rfl) :
    ED X (.Call (.Name x p) (e :: es) [] pos) (dExc x ps fa) :=
  .of (pe_made (pmk_exc M hr hj hg ha hdb he hpl)) fun F S H ρ σ d S' Q hk R rr hf hq => by
    obtain ⟨xs, h1, c1, c2, rfl⟩ := exc_some hf
    refine ⟨F, S, ρ, xs, S', hk, R, rr, h1, c1, c2, fun F' H' dd ys le R' hg rl => ⟨dd, rfl, fun a hna => ?_⟩⟩
    obtain ⟨R2, le2⟩ := R'.add (o := xcp (.ref (He.ga X.K x)) dd a) hna
    exact hq _ _ _ (le.trans le2) R2 ⟨a, dd, ys, rfl, by rw [List.length_reverse, List.length_reverse, c1], by rw [show (F'.add a _).K = X.K from le.k.trans hk]; exact upd_same, le2.g _ _ hg, rl.le le2⟩
/-! ### e.f -/
def tXat (K : PySem.W.Frag) (n : Str) (te : TE) : TE := fun σ H Q => te σ H fun x H1 => ∃ (a d C : Addr) (fs : List (Str × V)) (v : V), x = .ref a ∧ H1 a = some (xcp (.ref C) d a) ∧ XfC K C ∧ PySem.W.findIn K (.ref C) n = some none ∧ H1 d = some (.xd fs) ∧ fs.lookup n = some v ∧ Q v H1
theorem xcp_inst {pins : List (Addr × Obj)} {σ : L2.St} {H : Hp} {s : Shared} {a d C : Addr} {fs : List (Str × V)} (I : L2.Inv X pins σ H s) (ha : H a = some (xcp (.ref C) d a)) (hd : H d = some (.xd fs)) :
    ∃ (oe od : Obj) (mA : Str → Option Value), PySem.W.InstAt s.heap a oe C (some od) ∧ (∀ f, RelO (fs.lookup f) (mA f)) ∧ ∀ f : Str, PySem.W.lookIn f od = some (mA f) := by
  obtain ⟨oe, vs, he, hz, hv⟩ := xcp_at I.hok ha
  have hx : ObjOk X.prog X.w H s.heap d (.xd fs) := I.hok d _ hd
  obtain ⟨mA, hns, hr⟩ := hx
  obtain ⟨od, ho, hl⟩ := lookIn_ns hns
  exact ⟨oe, od, mA, ⟨he, hz.1, by unfold PySem.W.notCls; rw [hv] <;> rfl, by rw [hz.2]; exact ho⟩, hr, hl⟩
theorem pe_xat {n : Str} {te : TE} (h : PE X e te) (hb : attributeBase e n X.env (eval e X.env) = eval e X.env := by rfl) : PE X (.Attribute e n pos) (tXat X.K n te) := by
  refine ⟨fun pins s σ H Q I hw => attr_of hb (thn (h.run pins s σ H _ I hw) fun u s1 hh => ?_)⟩
  obtain ⟨x, H1, I1, rx, a, d, C, fs, v, ex, ea, T, hno, edd, hl, q⟩ := hh
  subst ex
  obtain rfl : u = Value.ref a := rx
  obtain ⟨oe, od, mA, J, hr, hlk⟩ := xcp_inst I1 ea edd
  obtain ⟨u, hu, ru⟩ := RelO.some_of (v := v) (o := mA n) (by rw [← hl]; exact hr n)
  exact HandSPX.exc_get I1.kIn J T.ga T.gg T.exC (PySem.W.findObj_own T.hdC hno rfl (by rw [hlk, hu])) (handed_of ru) ⟨v, H1, I1.tok _, ru, q⟩
theorem xtB_ok {K : PySem.W.Frag} {T : XTab} (h : xtB K T = true) {C : Str} {t : Str × List Str} (ht : (T.find? fun t => t.1 == C) = some t) : ExcF K (He.ga K C) (He.ma K (He.ga K C) "__init__") t.2 := by
  have hm := List.mem_of_find?_eq_some ht
  have hp := List.find?_some ht
  have hp : t.1 = C := eq_of_beq hp
  have := excB_ok (List.all_eq_true.mp h t hm)
  rw [hp] at this
  exact this
/-- the class told stands in the table, its fields too -/
def dXat (T : XTab) (n : Str) (f : DE) : DE := fun ρ S => match f ρ S with
  | some (.exc C ns ds, S1) => (match T.find? fun t => t.1 == C with
    | some t => if t.2.contains n = true then (match (ns.zip ds).lookup n with
      | some d => some (d, S1)
      | none => none) else none
    | none => none)
  | _ => none
theorem zip_lookup {F : Fm} {n : Str} {d : DV} : ∀ {ns : List Str} {ds : List DV} {xs : List V}, RelL F ds xs → (ns.zip ds).lookup n = some d → ∃ v, (ns.zip xs).lookup n = some v ∧ Rel F d v
  | [], ds, xs, r, h => by cases h
  | m :: ns, [], xs, r, h => by cases h
  | m :: ns, y :: ds, xs, r, h => by
    obtain ⟨x, xr, rfl, r1, r2⟩ := r
    rw [List.zip_cons_cons, List.lookup_cons] at h ⊢
    cases q : n == m with
    | true =>
      rw [q] at h
      cases h
      exact ⟨x, rfl, r1⟩
    | false =>
      rw [q] at h
      exact zip_lookup r2 h
theorem ed_xat {T : XTab} {n : Str} {f : DE} (hT : xtB X.K T = true) (h : ED X e f) (hb : attributeBase e n X.env (eval e X.env) = eval e X.env := by rfl) : ED X (.Attribute e n pos) (dXat T n f) :=
  .of (pe_xat h.pe hb) fun F S H ρ σ d S' Q hk R rr hf hq => by
    unfold dXat at hf
    split at hf
    · rename_i C ns ds S1 h1
      split at hf
      · rename_i t ht
        obtain ⟨c1, hf⟩ := of_ite hf
        split at hf
        · rename_i d' hd
          cases hf
          have F0 := xtB_ok hT ht
          refine rdE.go hk R rr h1 fun F1 H1 v le hk1 R1 r1 rv => ?_
          obtain ⟨a, dd, xs, rfl, hl, g1, g2, rl⟩ := rv
          rw [hk1] at g1
          obtain ⟨v, hv, rv⟩ := zip_lookup rl hd
          exact ⟨a, dd, _, _, v, rfl, R1.g _ _ g1, F0.x, F0.n n (List.contains_iff_mem.mp c1), R1.g _ _ g2, hv, hq F1 H1 v le R1 rv⟩
        · cases hf
      · cases hf
    · cases hf
/-! ### isinstance(e, ..) -/
def rIsX (K : PySem.W.Frag) : List V → Hp → VK → Prop := fun xs H Q => ∃ (a d C : Addr) (fs : List (Str × V)) (c : V) (u : Value) (b : Bool), xs = [.ref a, c] ∧ H a = some (xcp (.ref C) d a) ∧ H d = some (.xd fs) ∧ ClsV c u ∧ XfC K C ∧ PySem.W.findIn K (.ref C) "__class__" = some (some (.builtin "object.__class__")) ∧ PySem.W.mroIn K C (.type "object") = some true ∧
  PySem.W.specialIn K (.builtin "object.__class__") "__get__" = some (some (.builtin "getset_descriptor.__get__")) ∧ PySem.W.takesIn K (.builtin "object.__class__") = some true ∧ PySem.W.kitOne K (.ref C) u = some b ∧ Q (.bl b) H
def rIsXT (K : PySem.W.Frag) : List V → Hp → VK → Prop := fun xs H Q => ∃ (a d C tp : Addr) (fs : List (Str × V)) (cs : List V) (us : List Value) (b : Bool), xs = [.ref a, .ref tp] ∧ H a = some (xcp (.ref C) d a) ∧ H d = some (.xd fs) ∧ H tp = some (.tup cs) ∧ Paired ClsV cs us ∧ XfC K C ∧ PySem.W.findIn K (.ref C) "__class__" = some (some (.builtin "object.__class__")) ∧ PySem.W.mroIn K C (.type "object") = some true ∧
  PySem.W.specialIn K (.builtin "object.__class__") "__get__" = some (some (.builtin "getset_descriptor.__get__")) ∧ PySem.W.takesIn K (.builtin "object.__class__") = some true ∧ PySem.W.kitAny K (.ref C) us = some b ∧ Q (.bl b) H
theorem call_isX : CallR X (.builtin "isinstance") (rIsX X.K) := by
  intro pins s σ H xs us Q I r h
  obtain ⟨a, d, C, fs, c, u, b, rfl, ha, hd, hc, T, ca, hm, hn, ht, hk, q⟩ := h
  obtain ⟨u1, u2, rfl, r1, r2⟩ := vals2 r
  have e2 := hc.eq r2
  subst e2
  obtain rfl : u1 = Value.ref a := r1
  obtain ⟨oe, od, mA, J, _, _⟩ := xcp_inst I ha hd
  exact PySem.W.kia_one (PySem.W.kitx_exc (od := some od) (by obtain ⟨cd, hc, _⟩ := PySem.W.any_some T.hdC; rw [hc]; rfl) T.ga T.gg T.exC ca hn ht hm) I.kIn J hk (fun z => nomatch z) fun tk => ⟨.bl b, H, I.tok tk, rfl, q⟩
theorem call_isXT : CallR X (.builtin "isinstance") (rIsXT X.K) := by
  intro pins s σ H xs us Q I r h
  obtain ⟨a, d, C, tp, fs, cs, ws, b, rfl, ha, hd, htp, hp, T, ca, hm, hn, ht, hk, q⟩ := h
  obtain ⟨u1, u2, rfl, r1, r2⟩ := vals2 r
  obtain rfl : u1 = Value.ref a := r1
  obtain rfl : u2 = Value.ref tp := r2
  obtain ⟨oe, od, mA, J, _, _⟩ := xcp_inst I ha hd
  obtain ⟨_, its, rv, o, h1, h2, n, h3⟩ := (show ObjOk X.prog X.w H s.heap tp (.tup cs) from I.hok tp _ htp)
  have e3 := ClsV.all hp rv
  subst e3
  obtain ⟨oc, odd, dt, sl⟩ := o
  simp only at h2 h3
  subst h2 h3
  exact PySem.W.kia_tup (PySem.W.kitx_exc (od := some od) (by obtain ⟨cd, hc, _⟩ := PySem.W.any_some T.hdC; rw [hc]; rfl) T.ga T.gg T.exC ca hn ht hm) I.kIn J h1 hk (fun z => nomatch z) fun tk => ⟨.bl b, H, I.tok tk, rfl, q⟩
def dIsX (T : XTab) (I : XITab) (D : List Str) (f : DE) : DE := fun ρ S => match f ρ S with
  | some (.exc C _ _, S1) => (match T.find? fun t => t.1 == C with
    | some _ => (match I.find? fun t => t.1 == C && t.2.1 == D with
      | some t => some (.bl t.2.2, S1)
      | none => none)
    | none => none)
  | _ => none
theorem ed_isX {T : XTab} {T1 T2 : XITab} {D : Str} {f : DE} {p1 p2 : Pos} (hT : xtB X.K T = true) (hI : xiB X.K T1 T2 = true) (tb : TB X.mg) (hD : X.mg D = some (.ref (He.ga X.K D))) (hDn : D ≠ "ValueError") (hg : Gl X "isinstance") (hg2 : Gl X D) (hx : ED X e f) (hd : (D == ("__debug__" : Str)) = false := by decide)
    (h1 : starEach [e, .Name D p2] X.env = (false, eval e X.env) :: starEach [.Name D p2] X.env := by rfl)
    (hpl : (backTo pos (starEach [.Name D p2] X.env)).any (·.1) = false := by rfl) : ED X (.Call (.Name "isinstance" p1) [e, .Name D p2] [] pos) (dIsX T T1 [D] f) :=
  .of (pe_callB call_isX hg tb.isinstance boot_isinstance (pa_cons hx.pe (pa_cons (pe_glob (v := .ref (He.ga X.K D)) hg2 hD rfl hd) pa_nil) h1) (he := h1) (hpl := hpl)) fun F S H ρ σ d S' Q hk R rr hf hq => by
    unfold dIsX at hf
    split at hf
    · rename_i C ns ds S1 h2
      split at hf
      · rename_i t0 ht0
        split at hf
        · rename_i t ht
          cases hf
          have F0 := xtB_ok hT ht0
          obtain ⟨b1, b2⟩ := He.ba hI
          obtain ⟨b2, b3⟩ := He.ba b2
          obtain ⟨b3, b4⟩ := He.ba b3
          have hm := List.mem_of_find?_eq_some ht
          have hfs := List.find?_some ht
          obtain ⟨p1, p2⟩ := He.ba hfs
          have e1 : t.1 = C := eq_of_beq p1
          have e2 : t.2.1 = [D] := eq_of_beq p2
          have q := List.all_eq_true.mp b3 t hm
          rw [e1, e2] at q
          have q := of_decide_eq_true q
          unfold xcv at q
          rw [if_neg hDn] at q
          refine rdE.go hk R rr h2 fun F1 H1 v le hk1 R1 r1 rv => ?_
          obtain ⟨a, dd, xs, rfl, hl, g1, g2, rl⟩ := rv
          rw [hk1] at g1
          exact ⟨a, dd, _, _, .ref (He.ga X.K D), .ref (He.ga X.K D), t.2.2, rfl, R1.g _ _ g1, R1.g _ _ g2, .own _, F0.x, F0.ca, F0.m, of_decide_eq_true b1, of_decide_eq_true b2, q, hq F1 H1 _ le R1 rfl⟩
        · cases hf
      · cases hf
    · cases hf
end
end Dn

/-! denotations of what may raise: expressions, statements, defs; try -/
namespace Dn
open PySem PySem.Spec PyProof.Rows L2
inductive OutX where
  | ok (o : Out)
  | ex (C : Str) (ns : List Str) (ds : List DV) (ρ : Ev) (S : Sto)
inductive ResX where
  | ok (d : DV) (S : Sto)
  | ex (C : Str) (ns : List Str) (ds : List DV) (S : Sto)
abbrev DSX := Ev → Sto → Option OutX
abbrev DEX := Ev → Sto → Option ResX
abbrev PLX := List DV → Sto → Option ResX
/-- what stands where an exception flies: its class, its dict -/
def PostW (F : Fm) (C : Str) (ns : List Str) (ds : List DV) (ρ : Ev) (S : Sto) (W : WX) : Prop :=
  ∀ (F' : Fm) (H' : Hp) (σ' : L2.St) (d : Addr) (xs : List V), Le F F' → Rep F' S H' → RelE F' ρ σ' → ns.length = ds.length → F'.G d = some (.xd (ns.zip xs)) → RelL F' ds xs → W (.ref (He.ga F.K C)) (some d) σ' H'
def PostSX (F : Fm) (D : Ends) (W : WX) : OutX → Prop
  | .ok o => PostS F o D
  | .ex C ns ds ρ S => PostW F C ns ds ρ S W
def PostEX (F : Fm) (ρ : Ev) (Q : VK) (W : WX) : ResX → Prop
  | .ok d S => PostE F S d Q
  | .ex C ns ds S => PostW F C ns ds ρ S W
def PostRX (F : Fm) (Q : VK) (E : XK) : ResX → Prop
  | .ok d S => PostE F S d Q
  | .ex C ns ds S => ∀ (F' : Fm) (H' : Hp) (d : Addr) (xs : List V), Le F F' → Rep F' S H' → ns.length = ds.length → F'.G d = some (.xd (ns.zip xs)) → RelL F' ds xs → E (.ref (He.ga F.K C)) (some d) H'
section
variable {F F' : Fm} {C : Str} {ns : List Str} {ds : List DV} {ρ : Ev} {S : Sto} {W : WX} {Q : VK} {E : XK} {D : Ends}
theorem PostW.le (h : PostW F C ns ds ρ S W) (w : Le F F') : PostW F' C ns ds ρ S W := fun F2 H2 σ2 d xs le R r hl hg rl => by
  have := h F2 H2 σ2 d xs (w.trans le) R r hl hg rl
  rw [← w.k] at this
  exact this
theorem PostSX.le {o : OutX} (h : PostSX F D W o) (w : Le F F') : PostSX F' D W o := by
  cases o with
  | ok o => exact PostS.le h w
  | ex C ns ds ρ S => exact PostW.le h w
end
def rdSX (K : PySem.W.Frag) (W : WX) (f : DSX) : TS := fun D σ H => ∃ F S ρ o, F.K = K ∧ Rep F S H ∧ RelE F ρ σ ∧ f ρ S = some o ∧ PostSX F D W o
def rdEX (K : PySem.W.Frag) (W : WX) (f : DEX) : TE := fun σ H Q => ∃ F S ρ r, F.K = K ∧ Rep F S H ∧ RelE F ρ σ ∧ f ρ S = some r ∧ PostEX F ρ Q W r
structure SX (X : Cx) (W : WX) (st : Stmt) (f : DSX) : Prop where
  ps : PS X st (rdSX X.K W f)
structure SXs (X : Cx) (W : WX) (st : List Stmt) (f : DSX) : Prop where
  ps : PSs X st (rdSX X.K W f)
structure EX (X : Cx) (W : WX) (e : Expr) (f : DEX) : Prop where
  pe : PE X e (rdEX X.K W f)
theorem rdSX.go {K : PySem.W.Frag} {W : WX} {f : DSX} {F : Fm} {S : Sto} {H : Hp} {ρ : Ev} {σ : L2.St} {o : OutX} {D : Ends} (hk : F.K = K) (R : Rep F S H) (rr : RelE F ρ σ) (hf : f ρ S = some o) (hq : PostSX F D W o) : rdSX K W f D σ H := ⟨F, S, ρ, o, hk, R, rr, hf, hq⟩
section
variable {X : Cx} {W : WX} {st : Stmt} {sts : List Stmt} {e : Expr} {es : List Expr} {pos p : Pos}
theorem SX.of {t : TS} {f : DSX} (h : PS X st t) (m : ∀ F S H ρ σ o D, F.K = X.K → Rep F S H → RelE F ρ σ → f ρ S = some o → PostSX F D W o → t D σ H) : SX X W st f :=
  ⟨⟨fun pins s σ H D I ⟨F, S, ρ, o, hk, R, r, hf, hq⟩ => h.run pins s σ H D I (m F S H ρ σ o D hk R r hf hq)⟩⟩
theorem SXs.of {t : TS} {f : DSX} (h : PSs X sts t) (m : ∀ F S H ρ σ o D, F.K = X.K → Rep F S H → RelE F ρ σ → f ρ S = some o → PostSX F D W o → t D σ H) : SXs X W sts f :=
  ⟨⟨fun pins s σ H D I ⟨F, S, ρ, o, hk, R, r, hf, hq⟩ => h.run pins s σ H D I (m F S H ρ σ o D hk R r hf hq)⟩⟩
theorem EX.of {t : TE} {f : DEX} (h : PE X e t) (m : ∀ F S H ρ σ r Q, F.K = X.K → Rep F S H → RelE F ρ σ → f ρ S = some r → PostEX F ρ Q W r → t σ H Q) : EX X W e f :=
  ⟨⟨fun pins s σ H Q I ⟨F, S, ρ, r, hk, R, rr, hf, hq⟩ => h.run pins s σ H Q I (m F S H ρ σ r Q hk R rr hf hq)⟩⟩
/-! ### statements that raise nothing -/
def xL (f : DS) : DSX := fun ρ S => match f ρ S with
  | some o => some (.ok o)
  | none => none
theorem ps_nox {t : TS} (h : PS X.nox st t) : PS X st t := ⟨fun pins s σ H D I hw =>
  wpAny_mono (h.run pins s σ H D (I.wish _) hw) (fun _ _ q => q.unwish) fun _ _ z => False.elim z⟩
theorem sx_lift {f : DS} (h : SD X.nox st f) : SX X W st (xL f) := .of (ps_nox h.ps) fun F S H ρ σ o D hk R rr hf hq => by
  unfold xL at hf
  split at hf
  · rename_i o' h1
    cases hf
    exact ⟨F, S, ρ, o', hk, R, rr, h1, hq⟩
  · cases hf
theorem sxs_lift {f : DS} (h : SDs X.nox sts f) : SXs X W sts (xL f) := .of h.ps.nox fun F S H ρ σ o D hk R rr hf hq => by
  unfold xL at hf
  split at hf
  · rename_i o' h1
    cases hf
    exact ⟨F, S, ρ, o', hk, R, rr, h1, hq⟩
  · cases hf
/-! ### one behind another, if, for -/
def xSeq (f g : DSX) : DSX := fun ρ S => match f ρ S with
  | some (.ok (.nx ρ' S')) => g ρ' S'
  | o => o
theorem seqX_go {f g : DSX} {F : Fm} {S : Sto} {H : Hp} {ρ : Ev} {σ : L2.St} {o : OutX} {D : Ends} {K : PySem.W.Frag} (hk : F.K = K) (R : Rep F S H) (rr : RelE F ρ σ) (hf : xSeq f g ρ S = some o) (hq : PostSX F D W o) : tSeq (rdSX K W f) (rdSX K W g) D σ H := by
  unfold xSeq at hf
  split at hf
  · rename_i ρ' S' h1
    exact ⟨F, S, ρ, _, hk, R, rr, h1, fun F' H' le R' σ' r' => ⟨F', S', ρ', o, le.k.trans hk, R', r', hf, hq.le le⟩⟩
  · rename_i h1
    refine ⟨F, S, ρ, o, hk, R, rr, hf, ?_⟩
    cases o with
    | ex C ns ds ρ' S' => exact hq
    | ok o =>
      intro F' H' le R'
      have := hq F' H' le R'
      cases o with
      | nx ρ' S' => exact absurd hf (h1 ρ' S')
      | rt d S' => exact this
      | bk ρ' S' => exact this
      | ct ρ' S' => exact this
theorem sxs_cons {f g : DSX} (h : SX X W st f) (hr : SXs X W sts g) : SXs X W (st :: sts) (xSeq f g) :=
  .of (pss_cons h.ps hr.ps) fun F S H ρ σ o D hk R rr hf hq => seqX_go hk R rr hf hq
theorem sxs_one {f : DSX} (h : SX X W st f) : SXs X W [st] f := ⟨pss_one h.ps⟩
theorem sxs_nil : SXs X W [] (xL dNext) := sxs_lift sds_nil
def xIf (c : DE) (f g : DSX) : DSX := fun ρ S => match c ρ S with
  | some (.bl true, S1) => f ρ S1
  | some (.bl false, S1) => g ρ S1
  | _ => none
theorem sx_if {c : Expr} {ss ts : List Stmt} {hc : DE} {f g : DSX} (h1 : TD X.nox c hc) (h2 : SXs X W ss f) (h3 : SXs X W ts g) : SX X W (.If c ss ts pos) (xIf hc f g) :=
  .of (ps_if h1.pt.nox h2.ps h3.ps) fun F S H ρ σ o D hk R rr hf hq => by
    unfold xIf at hf
    split at hf
    · rename_i S1 e1
      refine rdT.go hk R rr e1 fun F1 H1 le hk1 R1 r1 => ?_
      rw [if_pos rfl]
      exact rdSX.go hk1 R1 r1 hf (hq.le le)
    · rename_i S1 e1
      refine rdT.go hk R rr e1 fun F1 H1 le hk1 R1 r1 => ?_
      rw [if_neg Bool.false_ne_true]
      exact rdSX.go hk1 R1 r1 hf (hq.le le)
    · cases hf
def forX (g : DG) (body : DSX) : List DV → DSX
  | [] => fun ρ S => some (.ok (.nx ρ S))
  | d :: ds => fun ρ S => match g d ρ S with
    | some (ρ1, S1) => (match body ρ1 S1 with
      | some (.ok (.nx ρ2 S2)) => forX g body ds ρ2 S2
      | some (.ok (.ct ρ2 S2)) => forX g body ds ρ2 S2
      | some (.ok (.bk ρ2 S2)) => some (.ok (.nx ρ2 S2))
      | some (.ok (.rt v S2)) => some (.ok (.rt v S2))
      | some (.ex C ns es ρ2 S2) => some (.ex C ns es ρ2 S2)
      | none => none)
    | none => none
def xFor (it : DI) (g : DG) (body : DSX) : DSX := fun ρ S => match it ρ S with
  | some (ds, S1) => forX g body ds ρ S1
  | none => none
theorem forX_go {it : DI} {g : DG} {body : DSX} {F : Fm} {S : Sto} {H : Hp} {ρ : Ev} {σ : L2.St} {o : OutX} {D : Ends} {K : PySem.W.Frag} (hk : F.K = K) (R : Rep F S H) (rr : RelE F ρ σ) (hf : xFor it g body ρ S = some o) (hq : PostSX F D W o) : tFor (rdI K it) (rdG K g) (rdSX K W body) D σ H := by
  unfold xFor at hf
  split at hf
  · rename_i ds S1 h1
    refine ⟨F, S, ρ, ds, S1, hk, R, rr, h1, fun J F1 H1 le1 R1 wk => ?_⟩
    refine ⟨fun i m σ H => i ≤ ds.length ∧ m = ds.length - i ∧ ∃ F' S' ρ', Le F1 F' ∧ Rep F' S' H ∧ RelE F' ρ' σ ∧ forX g body (ds.drop i) ρ' S' = some o, ⟨ds.length, Nat.zero_le _, rfl, F1, S1, ρ, .refl F1, R1, rr.le le1, by rw [List.drop_zero]; exact hf⟩, ?_⟩
    rintro i m σ H ⟨hi, rfl, F', S', ρ', le', R', r', hf'⟩
    obtain ⟨w1, w2⟩ := wk i F' S' H le'.wk le'.pf R'
    by_cases hlt : i < ds.length
    · refine .inr ?_
      have hd : ds[i]? = some ds[i] := List.getElem?_eq_getElem hlt
      obtain ⟨g1, g2⟩ := w2 _ hd
      rw [List.drop_eq_getElem_cons hlt] at hf'
      unfold forX at hf'
      refine ⟨g1, fun σ' H' => ∃ m', m' < ds.length - i ∧ (i + 1 ≤ ds.length ∧ m' = ds.length - (i + 1) ∧ ∃ F' S' ρ', Le F1 F' ∧ Rep F' S' H' ∧ RelE F' ρ' σ' ∧ forX g body (ds.drop (i + 1)) ρ' S' = some o), fun _ _ z => z, fun x H2 y => ?_⟩
      obtain ⟨F2, le2, R2, rx⟩ := g2 x H2 y
      split at hf'
      · rename_i ρ1 S3 hg
        refine ⟨F2, S', ρ', _, ρ1, S3, le2.k.trans (le'.k.trans (le1.k.trans hk)), R2, r'.le le2, rx, hg, fun F3 H3 σ3 le3 R3 r3 => ?_⟩
        have le03 : Le F1 F3 := (le'.trans le2).trans le3
        have hk3 : F3.K = K := le3.k.trans (le2.k.trans (le'.k.trans (le1.k.trans hk)))
        split at hf'
        · rename_i ρ2 S2 hb
          exact rdSX.go hk3 R3 r3 hb fun F4 H4 le4 R4 σ4 r4 => ⟨_, by omega, hlt, rfl, F4, S2, ρ2, le03.trans le4, R4, r4, hf'⟩
        · rename_i ρ2 S2 hb
          exact rdSX.go hk3 R3 r3 hb fun F4 H4 le4 R4 σ4 r4 => ⟨_, by omega, hlt, rfl, F4, S2, ρ2, le03.trans le4, R4, r4, hf'⟩
        · rename_i ρ2 S2 hb
          cases hf'
          exact rdSX.go hk3 R3 r3 hb fun F4 H4 le4 R4 σ4 r4 => hq F4 H4 (le1.trans (le03.trans le4)) R4 σ4 r4
        · rename_i v S2 hb
          cases hf'
          exact rdSX.go hk3 R3 r3 hb fun F4 H4 le4 R4 v rv => hq F4 H4 (le1.trans (le03.trans le4)) R4 v rv
        · rename_i C ns es ρ2 S2 hb
          cases hf'
          exact rdSX.go hk3 R3 r3 hb (PostW.le hq (le1.trans le03))
        · cases hf'
      · cases hf'
    · have e : i = ds.length := by omega
      subst e
      rw [List.drop_length] at hf'
      cases (show some (OutX.ok (Out.nx ρ' S')) = some o from hf')
      exact .inl ⟨w1 rfl, hq F' H (le1.trans le') R' σ r'⟩
  · cases hf
theorem sx_for {it : DI} {g : DG} {body : DSX} (h : PS X st (tFor (rdI X.K it) (rdG X.K g) (rdSX X.K W body))) : SX X W st (xFor it g body) := .of h fun F S H ρ σ o D hk R rr hf hq => forX_go hk R rr hf hq
/-! ### raise -/
def xRaise (C : Str) (ps : List Str) (fa : DA) : DSX := fun ρ S => match dExc C ps fa ρ S with
  | some (.exc C ns ds, S1) => some (.ex C ns ds ρ S1)
  | _ => none
theorem sx_raise {x : Str} {ps : List Str} {j : Nat} {fa : DA} {pos2 : Pos} (hc : X.calm = true) (tk : Takes X W) (M : XcC X.prog X.w X.K X.mg X.base x ps) (hr : Room j X.A) (hj : 2 ≤ j) (hg : Gl X x) (ha : AD X (e :: es) fa) (hdb : (x == ("__debug__" : Str)) = false := by decide)
    (he : starEach (e :: es) X.env = (false, eval e X.env) :: starEach es X.env := by rfl) (hpl : (backTo pos (starEach es X.env)).any (·.1) = false := by rfl) :
    SX X W (.Raise (some (.Call (.Name x p) (e :: es) [] pos)) none pos2) (xRaise x ps fa) :=
  .of (ps_raise hc tk (pmk_exc M hr hj hg ha hdb he hpl)) fun F S H ρ σ o D hk R rr hf hq => by
    unfold xRaise at hf
    split at hf
    · rename_i C ns ds S1 h1
      cases hf
      obtain ⟨xs, h2, c1, c2, e1⟩ := exc_some h1
      cases e1
      refine ⟨F, S, ρ, xs, S1, hk, R, rr, h2, c1, c2, fun F' H' d ys le R' hg rl => ?_⟩
      have := hq F' H' σ d ys le R' (rr.le le) (by rw [List.length_reverse, List.length_reverse, c1]) hg rl
      rw [hk] at this
      exact this
    · cases hf
/-! ### x = e, e, return e -/
def xSet (i : Nat) (f : DEX) : DSX := fun ρ S => match f ρ S with
  | some (.ok d S') => some (.ok (.nx (ρ.set i (some d)) S'))
  | some (.ex C ns ds S') => some (.ex C ns ds ρ S')
  | none => none
theorem sx_set {i : Nat} {f : DEX} (h : ∀ {te : TE}, PE X e te → PS X st (tAsg te (gName i))) (he : EX X W e f) : SX X W st (xSet i f) :=
  .of (h he.pe) fun F S H ρ σ o D hk R rr hf hq => by
    unfold xSet at hf
    split at hf
    · rename_i d S' h1
      cases hf
      exact ⟨F, S, ρ, _, hk, R, rr, h1, fun F' H' v le R' rv => hq F' H' le R' _ ((rr.le le).set i rv)⟩
    · rename_i C ns ds S' h1
      cases hf
      exact ⟨F, S, ρ, _, hk, R, rr, h1, hq⟩
    · cases hf
end
/-! ### defs -/
def runX (np n : Nat) (body : DSX) : PLX := fun ds S => if ds.length = np then (match body (ds.map some ++ List.replicate (n - ds.length) none) S with
  | some (.ok (.rt d S')) => some (.ok d S')
  | some (.ok (.nx _ S')) => some (.ok .non S')
  | some (.ex C ns es _ S') => some (.ex C ns es S')
  | _ => none) else none
def spX (K : PySem.W.Frag) (np : Nat) (f : PLX) : Sp := fun vs H Q E => ∃ F S ds r, F.K = K ∧ Rep F S H ∧ RelL F ds vs ∧ ds.length = np ∧ f ds S = some r ∧ PostRX F Q E r
theorem runX_len {np n : Nat} {b : DSX} {xs : List DV} {S : Sto} {z : ResX} (h : runX np n b xs S = some z) : xs.length = np := by
  unfold runX at h
  exact (of_ite h).1
section
variable {P : Program} {w : World} {K : PySem.W.Frag} {mg : Str → Option Value} {base : Heap} {x qual : Str} {params : Arguments} {body : List Stmt} {scope : Scope} {dvs : List V} {kws : List (Str × V)} {f : Addr} {fd : FuncData}
theorem fn_okX {N ps : List Str} {k : Nat} {b : DSX} (F : FunD K x qual params body scope dvs kws f fd) (S : FnScope N ps scope)
    (hb : ∀ (cdv : Value) (A : Around) (outer : List Env) (s : Shared) (H : Hp) (E : XK), Room k (A.deeper (envOfC qual scope s.heap.objs.size f cdv)) → SXs (cxOf (L2.CX P w) P w K mg base N qual scope f cdv A outer s H E) (fun cls d _ H => E cls d H) body b) :
    FnOk P w K mg base (L2.CX P w) (k + 1) f fd ps (spX K ps.length (runX ps.length N.length b)) := by
  refine F.ok S (fun vs H Q E h => ?_) (fun cdv A outer s H vs Q E hr h => ⟨_, (hb cdv A outer s H E hr).ps, ?_⟩)
  · obtain ⟨F, S, ds, d, hk, R, r, hn, _⟩ := h
    rw [← r.length, hn]
  · obtain ⟨F, S, ds, rz, hk, R, r, hn, e, hq⟩ := h
    unfold runX at e
    rw [if_pos hn] at e
    split at e
    · rename_i d' S2 h1
      cases e
      exact ⟨F, S, _, _, hk, R, relE_start r N, h1, fun F' H' le R' v rv => hq F' H' v le R' rv⟩
    · rename_i ρ' S2 h1
      cases e
      exact ⟨F, S, _, _, hk, R, relE_start r N, h1, fun F' H' le R' σ' _ => hq F' H' .non le R' rfl⟩
    · rename_i C ns es ρ' S2 h1
      cases e
      exact ⟨F, S, _, _, hk, R, relE_start r N, h1, fun F' H' σ' d xs le R' _ hl hg rl => hq F' H' d xs le R' hl hg rl⟩
    · cases e
end
structure FnX (P : Program) (w : World) (K : PySem.W.Frag) (mg : Str → Option Value) (base : Heap) (x : Str) (k : Nat) (ps : List Str) (f : PLX) : Prop where
  ex : ∃ (a : Addr) (fd : FuncData), mg x = some (.ref a) ∧ FnOk P w K mg base (L2.CX P w) k a fd ps (spX K ps.length f) ∧ PySem.W.keepIn K (.ref a) = true ∧ Binds K fd ps []
theorem FnX.of {P : Program} {w : World} {K : PySem.W.Frag} {mg : Str → Option Value} {base : Heap} {x : Str} {k : Nat} {ps : List Str} {f : PLX} {a : Addr} {fd : FuncData} {qual : Str} {params : Arguments} {body : List Stmt} {scope : Scope}
    (F : FunD K x qual params body scope [] [] a fd) (hm : mg x = some (.ref a)) (h : FnOk P w K mg base (L2.CX P w) k a fd ps (spX K ps.length f))
    (hb : ∀ (kV doc pm : Value) (an : Option Addr) (cdv ct : Value) (us : List Value), us.length = ps.length → bindArgs (PySem.W.fnOf x qual params body scope .none kV doc pm an cdv ct) ⟨us, []⟩ = pure (ps.zip us)) : FnX P w K mg base x k ps f :=
  ⟨a, fd, hm, h, F.kp, F.bindsN hb⟩
section
variable {X : Cx} {W : WX} {x : Str} {k j : Nat} {ps : List Str} {np n : Nat} {b0 : DSX} {p pos : Pos} {e : Expr} {es : List Expr} {fa : DA}
def xCall (f : PLX) (fa : DA) : DEX := fun ρ S => match fa ρ S with
  | some (xs, S1) => f xs S1
  | none => none
theorem ex_call (C : FnX X.prog X.w X.K X.mg X.base x k ps (runX np n b0)) (hn : ps.length = np) (hr : Room j X.A) (hj : k ≤ j) (tk : Takes X W) (hg : Gl X x) (ha : AD X (e :: es) fa) (hdb : (x == ("__debug__" : Str)) = false := by decide)
    (he : starEach (e :: es) X.env = (false, eval e X.env) :: starEach es X.env := by rfl) (hpl : (backTo pos (starEach es X.env)).any (·.1) = false := by rfl) :
    EX X W (.Call (.Name x p) (e :: es) [] pos) (xCall (runX np n b0) fa) := by
  subst hn
  obtain ⟨a, fd, h1, h2, h3, h4⟩ := C.ex
  refine .of (pe_callSD (dvs := []) (ds := []) (E := WE W) h2 (hr.mono hj) hg h1 h3 h4 .nil (fun σ => passAt tk σ) ha.pa hdb he hpl) fun F S H ρ σ r Q hk R rr hf hq => ?_
  unfold xCall at hf
  split at hf
  · rename_i xs S1 e1
    refine rdA.go hk R rr e1 fun F1 H1 vs le hk1 R1 r1 rv => ⟨F1, S1, xs, r, hk1, R1, by rw [List.append_nil]; exact rv, runX_len hf, hf, ?_⟩
    cases r with
    | ok d S' => exact PostE.le hq le
    | ex C ns ds S' =>
      intro F' H' d xs le' R' hl hg rl
      have := hq F' H' σ d xs (le.trans le') R' ((rr.le le).le le') hl hg rl
      rw [← le.k] at this
      exact this
  · cases hf
/-- where it does not raise -/
def cX (f : PLX) : PL := fun xs S => match f xs S with
  | some (.ok d S') => some (d, S')
  | _ => none
theorem ed_callX (C : FnX X.prog X.w X.K X.mg X.base x k ps (runX np n b0)) (hn : ps.length = np) (hr : Room j X.A) (hj : k ≤ j) (hg : Gl X x) (ha : AD X (e :: es) fa) (hdb : (x == ("__debug__" : Str)) = false := by decide)
    (he : starEach (e :: es) X.env = (false, eval e X.env) :: starEach es X.env := by rfl) (hpl : (backTo pos (starEach es X.env)).any (·.1) = false := by rfl) :
    ED X (.Call (.Name x p) (e :: es) [] pos) (dPrim (cX (runX np n b0)) fa) := by
  subst hn
  obtain ⟨a, fd, h1, h2, h3, h4⟩ := C.ex
  refine .of (pe_callSD (dvs := []) (ds := []) (E := fun _ _ _ _ => False) h2 (hr.mono hj) hg h1 h3 h4 .nil (fun σ pins H s e s' I c => ?_) ha.pa hdb he hpl) fun F S H ρ σ d S' Q hk R rr hf hq => ?_
  · obtain ⟨_, _, _, _, _, _, _, _, _, _, _, _, z⟩ := c
    exact z.elim
  · unfold dPrim at hf
    split at hf
    · rename_i xs S1 e1
      unfold cX at hf
      split at hf
      · rename_i d' S2 e2
        cases hf
        exact rdA.go hk R rr e1 fun F1 H1 vs le hk1 R1 r1 rv => ⟨F1, S1, xs, _, hk1, R1, by rw [List.append_nil]; exact rv, runX_len e2, e2, PostE.le hq le⟩
      · cases hf
    · cases hf
end
/-! ### try -/
def dTry (f : DSX) (cs : List Str) (i : Nat) (g : DS) : DS := fun ρ S => match f ρ S with
  | some (.ok o) => some o
  | some (.ex C ns ds ρ' S') => if cs.contains C = true then (match g (ρ'.set i (some (.exc C ns ds))) S' with
    | some (.nx ρ2 S2) => some (.nx (ρ2.set i none) S2)
    | some (.rt d S2) => some (.rt d S2)
    | some (.bk ρ2 S2) => some (.bk (ρ2.set i none) S2)
    | some (.ct ρ2 S2) => some (.ct (ρ2.set i none) S2)
    | none => none) else none
  | none => none
theorem unset2 {F : Fm} {ρ : Ev} {σ : L2.St} (r : RelE F ρ σ) (i : Nat) : RelE F (ρ.set i none) (σ.set i none) := by
  refine ⟨by simp [r.len], fun j e hj => ?_⟩
  by_cases q : j = i
  · subst q
    have hlt := (List.getElem?_eq_some_iff.mp hj).1
    rw [List.length_set] at hlt
    rw [List.getElem?_set_self hlt] at hj
    cases hj
  · rw [List.getElem?_set_ne (fun z => q z.symm)] at hj ⊢
    exact r.at_ j e hj
theorem sd_try {X : Cx} {D n : Str} {i : Nat} {cs : List Str} {body suite : List Stmt} {b₀ : Stmt} {np pos pos' : Pos} {f : DSX} {g : DS} (hs : X.stack = X.env :: X.outer) (hf : X.env.frame = some X.env.locals) (hex : X.ex = []) (hN : X.N.Nodup) (hi : X.N[i]? = some n) (hln : X.env.kindOf n = some .local)
    (hg : Gl X D) (hD : X.mg D = some (.ref (He.ga X.K D))) (hc : ∀ C, cs.contains C = true → PySem.W.exmOne X.K (.ref (He.ga X.K C)) (.ref (He.ga X.K D)) = some true)
    (hb : ∀ (W : WX) (pn : List (Addr × Obj)) (xe : Value → Shared → Prop), Takes (X.tr pn xe) W → PassesOwn (model X.prog X.w) X.A X.env xe → SXs (X.tr pn xe) W body f)
    (hsu : ∀ (a : Addr) (pn : List (Addr × Obj)), SDs (X.suite a pn) (b₀ :: suite) g) (hdb : (D == ("__debug__" : Str)) = false := by decide) :
    SD X (.Try body [.ExceptHandler (some (.Name D np)) (some n) (b₀ :: suite) pos'] [] [] pos) (dTry f cs i g) := by
  refine .of (ps_tryX (i := i) (tb := fun W => rdSX X.K W f) (ts := rdS X.K g) (Wout := fun _ _ _ _ => False) hs hf hex hN hi hln ⟨hg, hdb, .inl hD⟩ (fun u s' z => by obtain ⟨_, _, _, _, _, _, _, _, _, _, _, _, _, _, _, _, z⟩ := z; exact z.elim) (fun W pn xe tk pw => (hb W pn xe tk pw).ps) fun a pn => (hsu a pn).ps) fun F S H ρ σ o D hk R rr hfo hq => ?_
  unfold dTry at hfo
  split at hfo
  · rename_i o' h1
    cases hfo
    exact ⟨F, S, ρ, _, hk, R, rr, h1, hq⟩
  · rename_i C ns ds ρ' S' h1
    obtain ⟨c1, hfo⟩ := of_ite hfo
    refine ⟨F, S, ρ, _, hk, R, rr, h1, fun F' H' σ' d xs le R' r' hl hg rl => ⟨true, by rw [hk]; exact hc C c1, fun _ => ⟨d, rfl, fun a hna => ?_⟩, fun z => nomatch z⟩⟩
    obtain ⟨R2, le2⟩ := R'.add (o := xcp (.ref (He.ga F.K C)) d a) hna
    have hk2 : (F'.add a (xcp (.ref (He.ga F.K C)) d a)).K = X.K := le.k.trans hk
    have rx : Rel (F'.add a (xcp (.ref (He.ga F.K C)) d a)) (.exc C ns ds) (.ref a) := ⟨a, d, xs, rfl, hl, by rw [hk2, ← hk]; exact upd_same, le2.g _ _ hg, rl.le le2⟩
    have r2 := (r'.le le2).set i rx
    have le3 := le.trans le2
    split at hfo
    · rename_i ρ2 S2 h2
      cases hfo
      exact ⟨_, S', _, _, hk2, R2, r2, h2, fun F4 H4 le4 R4 σ4 r4 => hq F4 H4 (le3.trans le4) R4 _ (unset2 r4 i)⟩
    · rename_i dd S2 h2
      cases hfo
      exact ⟨_, S', _, _, hk2, R2, r2, h2, fun F4 H4 le4 R4 v rv => hq F4 H4 (le3.trans le4) R4 v rv⟩
    · rename_i ρ2 S2 h2
      cases hfo
      exact ⟨_, S', _, _, hk2, R2, r2, h2, fun F4 H4 le4 R4 σ4 r4 => hq F4 H4 (le3.trans le4) R4 _ (unset2 r4 i)⟩
    · rename_i ρ2 S2 h2
      cases hfo
      exact ⟨_, S', _, _, hk2, R2, r2, h2, fun F4 H4 le4 R4 σ4 r4 => hq F4 H4 (le3.trans le4) R4 _ (unset2 r4 i)⟩
    · cases hfo
  · cases hfo
end Dn

/-! isinstance of an exception: the built-in class, a tuple of classes; what a clause catches -/
namespace Dn
open PySem PySem.Spec PyProof.Rows L2
theorem xcB_ok {K : PySem.W.Frag} {cs : List Str} {D : Str} (h : xcB K cs D = true) (C : Str) (hc : cs.contains C = true) : PySem.W.exmOne K (.ref (He.ga K C)) (.ref (He.ga K D)) = some true :=
  He.exm_ok (List.all_eq_true.mp h C (List.contains_iff_mem.mp hc))
section
variable {X : Cx} {T : XTab} {T1 T2 : XITab} {e : Expr} {es : List Expr} {f : DE} {p1 p2 pos : Pos}
theorem ed_isXV (hT : xtB X.K T = true) (hI : xiB X.K T1 T2 = true) (tb : TB X.mg) (hg : Gl X "isinstance") (hg2 : Gl X "ValueError") (hx : ED X e f)
    (h1 : starEach [e, .Name "ValueError" p2] X.env = (false, eval e X.env) :: starEach [.Name "ValueError" p2] X.env := by rfl)
    (hpl : (backTo pos (starEach [.Name "ValueError" p2] X.env)).any (·.1) = false := by rfl) : ED X (.Call (.Name "isinstance" p1) [e, .Name "ValueError" p2] [] pos) (dIsX T T1 ["ValueError"] f) :=
  .of (pe_callB call_isX hg tb.isinstance boot_isinstance (pa_cons hx.pe (pa_cons (pe_bltn (v := .ty "ValueError") hg2 tb.ve PyProof.Rows.Boot.«ValueError» rfl (by decide) (by decide)) pa_nil) h1) (he := h1) (hpl := hpl)) fun F S H ρ σ d S' Q hk R rr hf hq => by
    unfold dIsX at hf
    split at hf
    · rename_i C ns ds S1 h2
      split at hf
      · rename_i t0 ht0
        split at hf
        · rename_i t ht
          cases hf
          have F0 := xtB_ok hT ht0
          obtain ⟨b1, b2⟩ := He.ba hI
          obtain ⟨b2, b3⟩ := He.ba b2
          obtain ⟨b3, b4⟩ := He.ba b3
          have hm := List.mem_of_find?_eq_some ht
          have hfs := List.find?_some ht
          obtain ⟨q1, q2⟩ := He.ba hfs
          have e1 : t.1 = C := eq_of_beq q1
          have e2 : t.2.1 = [("ValueError" : Str)] := eq_of_beq q2
          have q := List.all_eq_true.mp b3 t hm
          rw [e1, e2] at q
          have q := of_decide_eq_true q
          unfold xcv at q
          rw [if_pos rfl] at q
          refine rdE.go hk R rr h2 fun F1 H1 v le hk1 R1 r1 rv => ?_
          obtain ⟨a, dd, xs, rfl, hl, g1, g2, rl⟩ := rv
          rw [hk1] at g1
          exact ⟨a, dd, _, _, .ty "ValueError", .type "ValueError", t.2.2, rfl, R1.g _ _ g1, R1.g _ _ g2, .ty _, F0.x, F0.ca, F0.m, of_decide_eq_true b1, of_decide_eq_true b2, q, hq F1 H1 _ le R1 rfl⟩
        · cases hf
      · cases hf
    · cases hf
theorem clsV_map {K : PySem.W.Frag} : ∀ Ds : List Str, Paired ClsV (Ds.map fun D => V.ref (He.ga K D)) (Ds.map fun D => Value.ref (He.ga K D))
  | [] => .nil
  | D :: Ds => .cons (.own _) (clsV_map Ds)
theorem ed_isXT {Ds : List Str} {t : TA} {x1} (hT : xtB X.K T = true) (hI : xiB X.K T1 T2 = true) (tb : TB X.mg) (hg : Gl X "isinstance") (htp : PA X es t) (hx : ED X e f) (hz : Ds.length ≤ 1000 := by decide) (ht : ∀ σ H Q, Q (Ds.map fun D => V.ref (He.ga X.K D)) H → t σ H Q := by exact fun _ _ _ h => h)
    (h1 : starEach [e, .Tuple es x1 p2] X.env = (false, eval e X.env) :: starEach [.Tuple es x1 p2] X.env := by rfl)
    (hpl : (backTo pos (starEach [.Tuple es x1 p2] X.env)).any (·.1) = false := by rfl) : ED X (.Call (.Name "isinstance" p1) [e, .Tuple es x1 p2] [] pos) (dIsX T T2 Ds f) :=
  .of (pe_callB call_isXT hg tb.isinstance boot_isinstance (pa_cons hx.pe (pa_cons (pe_tup htp) pa_nil) h1) (he := h1) (hpl := hpl)) fun F S H ρ σ d S' Q hk R rr hf hq => by
    unfold dIsX at hf
    split at hf
    · rename_i C ns ds S1 h2
      split at hf
      · rename_i t0 ht0
        split at hf
        · rename_i t ht9
          cases hf
          have F0 := xtB_ok hT ht0
          obtain ⟨b1, b2⟩ := He.ba hI
          obtain ⟨b2, b3⟩ := He.ba b2
          obtain ⟨b3, b4⟩ := He.ba b3
          have hm := List.mem_of_find?_eq_some ht9
          have hfs := List.find?_some ht9
          obtain ⟨q1, q2⟩ := He.ba hfs
          have e1 : t.1 = C := eq_of_beq q1
          have e2 : t.2.1 = Ds := eq_of_beq q2
          have q := of_decide_eq_true (List.all_eq_true.mp b4 t hm)
          rw [e1, e2] at q
          refine rdE.go hk R rr h2 fun F1 H1 v le hk1 R1 r1 rv => ?_
          obtain ⟨a, dd, xs, rfl, hl, g1, g2, rl⟩ := rv
          rw [hk1] at g1
          refine ht _ _ _ ⟨by rw [List.length_map, sizeLine_eq]; omega, fun p hp => ?_⟩
          have n1 : H1 a = some (xcp (.ref (He.ga X.K C)) dd a) := R1.g _ _ g1
          have n2 := R1.g _ _ g2
          obtain ⟨R2, le2⟩ := R1.add (o := .tup (Ds.map fun D => V.ref (He.ga X.K D))) hp
          exact ⟨a, dd, _, p, _, _, _, t.2.2, rfl, by rw [upd_ne (ne_of_none n1 hp)]; exact n1, by rw [upd_ne (ne_of_none n2 hp)]; exact n2, upd_same, clsV_map Ds, F0.x, F0.ca, F0.m, of_decide_eq_true b1, of_decide_eq_true b2, q, hq _ _ _ (le.trans le2) R2 rfl⟩
        · cases hf
      · cases hf
    · cases hf
end
/-! ### evaluating what may raise -/
theorem seqx {f g : DSX} {ρ ρ' : Ev} {S S' : Sto} (h : f ρ S = some (.ok (.nx ρ' S'))) : xSeq f g ρ S = g ρ' S' := by
  unfold xSeq
  rw [h]
theorem seqx_ex {f g : DSX} {ρ ρ' : Ev} {S S' : Sto} {C : Str} {ns : List Str} {ds : List DV} (h : f ρ S = some (.ex C ns ds ρ' S')) : xSeq f g ρ S = some (.ex C ns ds ρ' S') := by
  unfold xSeq
  rw [h]
theorem xl_of {f : DS} {ρ : Ev} {S : Sto} {o : Out} (h : f ρ S = some o) : xL f ρ S = some (.ok o) := by
  unfold xL
  rw [h]
theorem xif_t {c : DE} {f g : DSX} {ρ : Ev} {S S1 : Sto} (h : c ρ S = some (.bl true, S1)) : xIf c f g ρ S = f ρ S1 := by
  unfold xIf
  rw [h]
theorem xif_f {c : DE} {f g : DSX} {ρ : Ev} {S S1 : Sto} (h : c ρ S = some (.bl false, S1)) : xIf c f g ρ S = g ρ S1 := by
  unfold xIf
  rw [h]
theorem xraise_of {C : Str} {ps : List Str} {fa : DA} {ρ : Ev} {S S1 : Sto} {xs : List DV} (h : fa ρ S = some (xs, S1)) (hl : xs.length = ps.length) (hz : xs.length ≤ 1000) : xRaise C ps fa ρ S = some (.ex C ps.reverse xs.reverse ρ S1) := by
  unfold xRaise dExc
  rw [h]
  dsimp only
  rw [if_pos ⟨hl, hz⟩]
end Dn

namespace Lk14
open PySem PySem.Spec PyProof.Rows L2 Dn
def b_worked_on : DS := (dSeq (dIfS (dBin (pEq false) (dBin pIx (dVar 0) (dC (.int 0))) (dC (.str "load"))) (dRet (dPrim pTup (aCons (dC (.bl false)) (aCons (dBin pIx (dVar 0) (dC (.int 2))) aNil)))) dNext)
  (dSeq (dIfS (dBin (pEq false) (dBin pIx (dVar 0) (dC (.int 0))) (dC (.str "store"))) (dRet (dPrim pTup (aCons (dC (.bl false)) (aCons (dBin pIx (dVar 0) (dC (.int 1))) aNil)))) dNext)
  (dSeq (dIfS (dBin (pEq false) (dBin pIx (dVar 0) (dC (.int 0))) (dC (.str "take"))) (dRet (dPrim pTup (aCons (dC (.bl true)) (aCons (dBin pIx (dVar 0) (dC (.int 2))) aNil)))) dNext)
  (dSeq (dIfS (dBin (pEq false) (dBin pIx (dVar 0) (dC (.int 0))) (dC (.str "lay"))) (dRet (dPrim pTup (aCons (dC (.bl true)) (aCons (dBin pIx (dVar 0) (dC (.int 1))) aNil)))) dNext)
  (dRet (dC .non))))))
def F_worked_on : PL := runF 1 1 b_worked_on
def b_leads : DS := (dSeq (dIfS (dBin (pEq false) (dBin pIx (dVar 0) (dC (.int 0))) (dC (.str "end"))) (dRet (dC .non)) dNext)
  (dSeq (dIfS (dBin (pEq false) (dBin pIx (dVar 0) (dC (.int 0))) (dC (.str "go"))) (dRet (dBin pIx (dVar 0) (dC (.int 1)))) dNext)
  (dSeq (dIfS (dBin (pEq false) (dBin pIx (dVar 0) (dC (.int 0))) (dC (.str "if"))) (dRet (dPrim pMax (aCons (dBin pIx (dVar 0) (dC (.int 2))) (aCons (dBin pAdd (dVar 1) (dC (.int 1))) aNil)))) dNext)
  (dRet (dBin pAdd (dVar 1) (dC (.int 1)))))))
def F_leads : PL := runF 2 2 b_leads
def b_look : DSX := (xSeq (xL (dAsg (dVar 0) (gTupD 3 (gsCons (gSet 2) (gsCons (gSet 3) (gsCons (gSet 4) gsNil))))))
  (xSeq (xL (dSet 1 (dPrim pLst (aCons (dLc (iSeq (dVar 2)) (gSet 9) (dC (.bl true)) (dBin pIx (dVar 9) (dC (.int 0))) [9]) (aCons (dLc (iSeq (dVar 3)) (gSet 9) (dC (.bl true)) (dBin pIx (dVar 9) (dC (.int 0))) [9]) aNil)))))
  (xSeq (xFor (iEnum2 (aCons (dVar 4) aNil)) (gTupD 2 (gsCons (gSet 5) (gsCons (gSet 6) gsNil))) (xSeq (xL (dSet 7 (dPrim (cP (pureOf F_worked_on) []) (aCons (dVar 6) aNil))))
  (xIf (dAnd (dBin (pIs true) (dVar 7) (dC .non)) (dBin (pIn true) (dBin pIx (dVar 7) (dC (.int 1))) (dBin pIx (dVar 1) (dPrim pInt (aCons (dBin pIx (dVar 7) (dC (.int 0))) aNil))))) (xRaise "Unknown" ["word", "row"] (aCons (dBin pIx (dVar 7) (dC (.int 1))) (aCons (dVar 5) aNil))) (xL dNext))))
  (xSeq (xIf (dBin (pEq false) (dPrim pLen (aCons (dVar 4) aNil)) (dC (.int 0))) (xRaise "Falls" ["row"] (aCons (dC (.int 0)) aNil)) (xL dNext))
  (xSeq (xFor (iEnum2 (aCons (dVar 4) aNil)) (gTupD 2 (gsCons (gSet 5) (gsCons (gSet 6) gsNil))) (xSeq (xL (dSet 8 (dPrim (cP (pureOf F_leads) []) (aCons (dVar 6) (aCons (dVar 5) aNil)))))
  (xIf (dAnd (dBin (pIs true) (dVar 8) (dC .non)) (dBin pGe (dVar 8) (dPrim pLen (aCons (dVar 4) aNil)))) (xRaise "Falls" ["row"] (aCons (dVar 5) aNil)) (xL dNext))))
  (xL (dRet (dC (.bl true)))))))))
def F_look : PLX := runX 1 10 b_look
def b_law_cell : DS := (dSeq (dIfS (dBin pLt (dVar 1) (dPrim pLen (aCons (dVar 0) aNil))) (dRet (dBin pIx (dVar 0) (dVar 1))) dNext)
  (dSeq (dSet 2 (dC (.int 7)))
  (dSeq (dIfS (dBin pGt (dPrim pLen (aCons (dVar 0) aNil)) (dC (.int 0))) (dSet 2 (dBin pMod (dBin pIx (dVar 0) (dBin pMod (dVar 1) (dPrim pLen (aCons (dVar 0) aNil)))) (dC (.int 999983)))) dNext)
  (dRet (dBin pMod (dBin pMul (dBin pAdd (dBin pAdd (dVar 2) (dBin pMul (dC (.int 613)) (dVar 1))) (dC (.int 29))) (dBin pAdd (dBin pAdd (dVar 2) (dBin pMul (dC (.int 71)) (dVar 1))) (dC (.int 5)))) (dC (.int 1000003)))))))
def F_law_cell : PL := runF 2 3 b_law_cell
def b_law_part : DS := (dSeq (dSet 3 (dPrim pTup (aCons (dC (.int 10007)) (aCons (dC (.int 10009)) (aCons (dC (.int 10037)) (aCons (dC (.int 10039)) (aCons (dC (.int 10061)) (aCons (dC (.int 10067)) (aCons (dC (.int 10069)) (aCons (dC (.int 10079)) aNil))))))))))
  (dRet (dBin pMod (dBin pMod (dBin pAdd (dBin pMul (dVar 0) (dC (.int 48271))) (dBin pMul (dC (.int 7919)) (dVar 1))) (dBin pIx (dVar 3) (dBin pMod (dVar 1) (dC (.int 8))))) (dVar 2))))
def F_law_part : PL := runF 3 4 b_law_part
def b_law_name : DS := (dSeq (dSet 2 (dC (.str "abcdefghijklmnopqrstuvwxyz")))
  (dSeq (dSet 3 (dBin pAdd (dC (.int 1)) (dPrim (cP (pureOf F_law_part) []) (aCons (dVar 0) (aCons (dC (.int 7)) (aCons (dC (.int 6)) aNil))))))
  (dSeq (dSet 4 (dLcM (iRange1 (aCons (dVar 3) aNil)) (gSet 5) (dC (.bl true)) (dBin pIx (dVar 2) (dPrim (cP (pureOf F_law_part) []) (aCons (dVar 0) (aCons (dVar 5) (aCons (dC (.int 26)) aNil))))) [5]))
  (dSeq (dSub (dBin pIx (dVar 2) (dBin pMod (dBin pAdd (dPrim (cP (pureOf F_law_part) []) (aCons (dVar 0) (aCons (dC (.int 4)) (aCons (dC (.int 26)) aNil)))) (dVar 1)) (dC (.int 26)))) (dVar 4) (dPrim (cP (pureOf F_law_part) []) (aCons (dVar 0) (aCons (dC (.int 3)) (aCons (dVar 3) aNil)))))
  (dRet (dM1 pJoin (dC (.str "")) (dVar 4)))))))
def F_law_name : PL := runF 2 6 b_law_name
def b_law_row : DS := (dSeq (dSet 4 (dPrim (cP (pureOf F_law_name) []) (aCons (dVar 1) (aCons (dBin pAdd (dC (.int 10)) (dPrim (cP (pureOf F_law_part) []) (aCons (dVar 0) (aCons (dC (.int 1)) (aCons (dC (.int 8)) aNil))))) aNil))))
  (dSeq (dSet 5 (dBin pIx (dPrim pLst (aCons (dVar 4) (aCons (dPrim (cP (pureOf F_law_name) []) (aCons (dVar 1) (aCons (dBin pAdd (dC (.int 8)) (dPrim (cP (pureOf F_law_part) []) (aCons (dVar 0) (aCons (dC (.int 2)) (aCons (dC (.int 10)) aNil))))) aNil))) (aCons (dBin pMod (dBin pMul (dVar 0) (dC (.int 94906267))) (dBin pPow (dC (.int 2)) (dC (.int 40)))) aNil)))) (dPrim (cP (pureOf F_law_part) []) (aCons (dVar 0) (aCons (dC (.int 3)) (aCons (dC (.int 3)) aNil))))))
  (dSeq (dSet 6 (dPrim (cP (pureOf F_law_part) []) (aCons (dVar 0) (aCons (dC (.int 0)) (aCons (dC (.int 14)) aNil)))))
  (dSeq (dIfS (dAnd (dBin pLt (dVar 6) (dC (.int 4))) (dBin pGt (dBin pIx (dVar 2) (dC (.int 0))) (dC (.int 0)))) (dSeq (dSet 7 (dPrim (cP (pureOf F_law_name) []) (aCons (dVar 1) (aCons (dPrim (cP (pureOf F_law_part) []) (aCons (dVar 0) (aCons (dC (.int 4)) (aCons (dBin pIx (dVar 2) (dC (.int 0))) aNil)))) aNil))))
  (dRet (dBin pIx (dPrim pLst (aCons (dPrim pTup (aCons (dC (.str "load")) (aCons (dVar 4) (aCons (dVar 7) aNil)))) (aCons (dPrim pTup (aCons (dC (.str "store")) (aCons (dVar 7) (aCons (dVar 5) aNil)))) aNil))) (dBin pMod (dVar 6) (dC (.int 2)))))) dNext)
  (dSeq (dIfS (dAnd (dBin pLt (dVar 6) (dC (.int 8))) (dBin pGt (dBin pIx (dVar 2) (dC (.int 1))) (dC (.int 0)))) (dSeq (dSet 8 (dPrim (cP (pureOf F_law_name) []) (aCons (dVar 1) (aCons (dBin pAdd (dC (.int 6)) (dPrim (cP (pureOf F_law_part) []) (aCons (dVar 0) (aCons (dC (.int 4)) (aCons (dBin pIx (dVar 2) (dC (.int 1))) aNil))))) aNil))))
  (dRet (dBin pIx (dPrim pLst (aCons (dPrim pTup (aCons (dC (.str "take")) (aCons (dVar 4) (aCons (dVar 8) (aCons (dVar 5) aNil))))) (aCons (dPrim pTup (aCons (dC (.str "lay")) (aCons (dVar 8) (aCons (dVar 5) (aCons (dC (.int 7)) aNil))))) aNil))) (dBin pMod (dVar 6) (dC (.int 2)))))) dNext)
  (dSeq (dIfS (dBin pLt (dVar 6) (dC (.int 9))) (dRet (dPrim pTup (aCons (dC (.str "op")) (aCons (dVar 4) (aCons (dBin pIx (dC (.str "+-*<=&|^")) (dPrim (cP (pureOf F_law_part) []) (aCons (dVar 0) (aCons (dC (.int 5)) (aCons (dC (.int 8)) aNil))))) (aCons (dVar 5) (aCons (dC (.int 5)) aNil))))))) dNext)
  (dSeq (dIfS (dBin pGt (dVar 6) (dC (.int 11))) (dSeq (dSet 9 (dPrim (cP (pureOf F_law_part) []) (aCons (dVar 0) (aCons (dC (.int 6)) (aCons (dVar 3) aNil)))))
  (dRet (dBin pIx (dPrim pLst (aCons (dPrim pTup (aCons (dC (.str "if")) (aCons (dVar 5) (aCons (dVar 9) aNil)))) (aCons (dPrim pTup (aCons (dC (.str "go")) (aCons (dVar 9) aNil))) aNil))) (dBin pSub (dVar 6) (dC (.int 12)))))) dNext)
  (dRet (dBin pIx (dPrim pLst (aCons (dPrim pTup (aCons (dC (.str "copy")) (aCons (dVar 4) (aCons (dVar 5) aNil)))) (aCons (dPrim pTup (aCons (dC (.str "hear")) (aCons (dVar 4) aNil))) (aCons (dPrim pTup (aCons (dC (.str "say")) (aCons (dVar 5) aNil))) aNil)))) (dBin pSub (dVar 6) (dC (.int 9))))))))))))
def F_law_row : PL := runF 4 10 b_law_row
def b_law_spoilt : DS := (dSeq (dIfS (dBin (pEq false) (dVar 0) (dPrim pLst aNil)) (dRet (dVar 0)) dNext)
  (dSeq (dSet 4 (dPrim (cP (pureOf F_law_part) []) (aCons (dVar 3) (aCons (dC (.int 0)) (aCons (dPrim pLen (aCons (dVar 0) aNil)) aNil)))))
  (dSeq (dSet 5 (dPrim (cP (pureOf F_law_part) []) (aCons (dVar 3) (aCons (dC (.int 1)) (aCons (dC (.int 8)) aNil)))))
  (dSeq (dSet 6 (dPrim pLst (aCons (dPrim (cP (pureOf F_law_name) []) (aCons (dVar 2) (aCons (dBin pAdd (dC (.int 10)) (dPrim (cP (pureOf F_law_part) []) (aCons (dVar 3) (aCons (dC (.int 2)) (aCons (dC (.int 16)) aNil))))) aNil))) (aCons (dPrim (cP (pureOf F_law_name) []) (aCons (dVar 2) (aCons (dPrim (cP (pureOf F_law_part) []) (aCons (dVar 3) (aCons (dC (.int 2)) (aCons (dC (.int 10)) aNil)))) aNil))) aNil))))
  (dSeq (dSet 7 (dBin pIx (dVar 6) (dPrim (cP (pureOf F_law_part) []) (aCons (dVar 3) (aCons (dC (.int 3)) (aCons (dC (.int 2)) aNil))))))
  (dSeq (dSet 8 (dBin pAdd (dPrim pLen (aCons (dVar 0) aNil)) (dPrim (cP (pureOf F_law_part) []) (aCons (dVar 3) (aCons (dC (.int 4)) (aCons (dC (.int 70)) aNil))))))
  (dSeq (dSet 9 (dPrim pLst (aCons (dPrim pTup (aCons (dC (.str "load")) (aCons (dC (.str "x")) (aCons (dVar 7) aNil)))) (aCons (dPrim pTup (aCons (dC (.str "store")) (aCons (dVar 7) (aCons (dC (.int 5)) aNil)))) (aCons (dPrim pTup (aCons (dC (.str "take")) (aCons (dC (.str "y")) (aCons (dVar 7) (aCons (dC (.int 0)) aNil))))) (aCons (dPrim pTup (aCons (dC (.str "lay")) (aCons (dVar 7) (aCons (dC (.int 1)) (aCons (dC (.int 2)) aNil))))) aNil))))))
  (dSeq (dSet 9 (dBin pAdd (dVar 9) (dPrim pLst (aCons (dPrim pTup (aCons (dC (.str "if")) (aCons (dC (.int 1)) (aCons (dVar 8) aNil)))) (aCons (dPrim pTup (aCons (dC (.str "go")) (aCons (dVar 8) aNil))) aNil)))))
  (dSeq (dIfS (dBin (pEq false) (dVar 5) (dC (.int 6))) (dSeq (dSet 10 (dPrim (cP (pureOf F_law_part) []) (aCons (dVar 3) (aCons (dC (.int 5)) (aCons (dPrim pLen (aCons (dVar 0) aNil)) aNil)))))
  (dRet (dBin pAdd (dSl pSl (dVar 0) oNone (oSome (dUn pNeg (dC (.int 1))))) (dPrim pLst (aCons (dBin pIx (dPrim pLst (aCons (dPrim pTup (aCons (dC (.str "say")) (aCons (dC (.int 7)) aNil))) (aCons (dPrim pTup (aCons (dC (.str "if")) (aCons (dC (.int 7)) (aCons (dVar 10) aNil)))) (aCons (dPrim pTup (aCons (dC (.str "go")) (aCons (dVar 10) aNil))) (aCons (dPrim pTup (aCons (dC (.str "if")) (aCons (dC (.str "x")) (aCons (dVar 10) aNil)))) aNil))))) (dPrim (cP (pureOf F_law_part) []) (aCons (dVar 3) (aCons (dC (.int 6)) (aCons (dC (.int 4)) aNil))))) aNil))))) dNext)
  (dSeq (dIfS (dBin (pEq false) (dVar 5) (dC (.int 7))) (dRet (dPrim pLst aNil)) dNext)
  (dRet (dBin pAdd (dBin pAdd (dSl pSl (dVar 0) oNone (oSome (dVar 4))) (dPrim pLst (aCons (dBin pIx (dVar 9) (dVar 5)) aNil))) (dSl pSl (dVar 0) (oSome (dBin pAdd (dVar 4) (dC (.int 1)))) oNone)))))))))))))
def F_law_spoilt : PL := runF 4 11 b_law_spoilt
def b_law_word : DS := (dSeq (dIfS (dOr (dBin (pEq false) (dBin pIx (dVar 0) (dC (.int 0))) (dC (.str "load"))) (dBin (pEq false) (dBin pIx (dVar 0) (dC (.int 0))) (dC (.str "take")))) (dRet (dBin pIx (dVar 0) (dC (.int 2)))) dNext)
  (dRet (dBin pIx (dVar 0) (dC (.int 1)))))
def F_law_word : PL := runF 1 1 b_law_word
def b_law_due : DS := (dSeq (dFor (iRange1 (aCons (dPrim pLen (aCons (dVar 2) aNil)) aNil)) (gSet 3) (dSeq (dIfS (dAnd (dBin (pIn false) (dBin pIx (dBin pIx (dVar 2) (dVar 3)) (dC (.int 0))) (dPrim pTup (aCons (dC (.str "load")) (aCons (dC (.str "store")) aNil)))) (dBin (pIn true) (dPrim (cP (pureOf F_law_word) []) (aCons (dBin pIx (dVar 2) (dVar 3)) aNil)) (dVar 0))) (dRet (dPrim pLst (aCons (dC (.str "unknown")) (aCons (dPrim (cP (pureOf F_law_word) []) (aCons (dBin pIx (dVar 2) (dVar 3)) aNil)) (aCons (dVar 3) aNil))))) dNext)
  (dIfS (dAnd (dBin (pIn false) (dBin pIx (dBin pIx (dVar 2) (dVar 3)) (dC (.int 0))) (dPrim pTup (aCons (dC (.str "take")) (aCons (dC (.str "lay")) aNil)))) (dBin (pIn true) (dPrim (cP (pureOf F_law_word) []) (aCons (dBin pIx (dVar 2) (dVar 3)) aNil)) (dVar 1))) (dRet (dPrim pLst (aCons (dC (.str "unknown")) (aCons (dPrim (cP (pureOf F_law_word) []) (aCons (dBin pIx (dVar 2) (dVar 3)) aNil)) (aCons (dVar 3) aNil))))) dNext)))
  (dSeq (dFor (iRange1 (aCons (dPrim pLen (aCons (dVar 2) aNil)) aNil)) (gSet 3) (dSeq (dSet 4 (dPrim pLstM (aCons (dBin pAdd (dVar 3) (dC (.int 1))) aNil)))
  (dSeq (dIfS (dBin (pEq false) (dBin pIx (dBin pIx (dVar 2) (dVar 3)) (dC (.int 0))) (dC (.str "if"))) (dExpr (dMt pAppend (dVar 4) (aCons (dBin pIx (dBin pIx (dVar 2) (dVar 3)) (dC (.int 2))) aNil))) dNext)
  (dSeq (dIfS (dBin (pEq false) (dBin pIx (dBin pIx (dVar 2) (dVar 3)) (dC (.int 0))) (dC (.str "go"))) (dSet 4 (dPrim pLst (aCons (dBin pIx (dBin pIx (dVar 2) (dVar 3)) (dC (.int 1))) aNil))) dNext)
  (dIfS (dAnd (dBin (pEq true) (dBin pIx (dBin pIx (dVar 2) (dVar 3)) (dC (.int 0))) (dC (.str "end"))) (dBin pGe (dPrim pMax (aCons (dVar 4) aNil)) (dPrim pLen (aCons (dVar 2) aNil)))) (dRet (dPrim pLst (aCons (dC (.str "falls")) (aCons (dVar 3) aNil)))) dNext)))))
  (dSeq (dIfS (dBin (pEq false) (dVar 2) (dPrim pLst aNil)) (dRet (dPrim pLst (aCons (dC (.str "falls")) (aCons (dC (.int 0)) aNil)))) dNext)
  (dRet (dPrim pLst (aCons (dC (.str "good")) aNil))))))
def F_law_due : PL := runF 3 5 b_law_due
def b_law_whole : DS := (dRet (dAnd (dIsi .int (dVar 0)) (dNot (dIsi .bool (dVar 0)))))
def F_law_whole : PL := runF 1 1 b_law_whole
def b_law_told : DS := (dSeq (dSet 1 (dC .non))
  (dSeq (dSet 2 (dC .non))
  (dSeq (dTry (xSet 2 (xCall F_look (aCons (dVar 0) aNil))) XC_DimError 3 (dSet 1 (dVar 3)))
  (dSeq (dIfS (dBin (pIs false) (dVar 1) (dC .non)) (dRet (dBin pIx (dPrim pLst (aCons (dPrim pLst (aCons (dC (.str "bad")) aNil)) (aCons (dPrim pLst (aCons (dC (.str "good")) aNil)) aNil))) (dPrim pInt (aCons (dBin (pIsB false) (dVar 2) (dC (.bl true))) aNil)))) dNext)
  (dSeq (dIfS (dOr (dNot (dIsX XT XJ1 ["ValueError"] (dVar 1))) (dIsX XT XJ2 ["BadLine", "Twice", "NoLabel"] (dVar 1))) (dRet (dPrim pLst (aCons (dC (.str "bad")) aNil))) dNext)
  (dSeq (dIfS (dOr (dBin (pEq false) (dIsX XT XJ1 ["Unknown"] (dVar 1)) (dIsX XT XJ1 ["Falls"] (dVar 1))) (dNot (dPrim (cP (pureOf F_law_whole) []) (aCons (dXat XT "row" (dVar 1)) aNil)))) (dRet (dPrim pLst (aCons (dC (.str "bad")) aNil))) dNext)
  (dSeq (dIfS (dIsX XT XJ1 ["Falls"] (dVar 1)) (dRet (dPrim pLst (aCons (dC (.str "falls")) (aCons (dXat XT "row" (dVar 1)) aNil)))) dNext)
  (dRet (dPrim pLst (aCons (dC (.str "unknown")) (aCons (dXat XT "word" (dVar 1)) (aCons (dXat XT "row" (dVar 1)) aNil))))))))))))
def F_law_told : PL := runF 1 4 b_law_told
def b_law_made : DS := (dSeq (dSet 2 (dExc "Unknown" ["word", "row"] (aCons (dVar 0) (aCons (dVar 1) aNil))))
  (dSeq (dIfS (dOr (dBin (pEq true) (dXat XT "word" (dVar 2)) (dVar 0)) (dOr (dBin (pEq true) (dXat XT "row" (dVar 2)) (dVar 1)) (dOr (dBin (pEq true) (dXat XT "row" (dExc "Falls" ["row"] (aCons (dVar 1) aNil))) (dVar 1)) (dBin (pEq true) (dXat XT "at" (dExc "BadLine" ["at"] (aCons (dVar 1) aNil))) (dVar 1))))) (dRet (dC (.bl false))) dNext)
  (dRet (dAnd (dBin (pEq false) (dXat XT "word" (dExc "Twice" ["word"] (aCons (dVar 0) aNil))) (dVar 0)) (dAnd (dBin (pEq false) (dXat XT "word" (dExc "NoLabel" ["word"] (aCons (dVar 0) aNil))) (dVar 0)) (dIsX XT XJ1 ["DimError"] (dVar 2)))))))
def F_law_made : PL := runF 2 3 b_law_made
def b_law : DS := (dSeq (dSet 1 (dPrim (cP (pureOf F_law_cell) []) (aCons (dVar 0) (aCons (dC (.int 0)) aNil))))
  (dSeq (dSet 2 (dPrim (cP (pureOf F_law_cell) []) (aCons (dVar 0) (aCons (dC (.int 1)) aNil))))
  (dSeq (dSet 3 (dPrim pLst (aCons (dPrim (cP (pureOf F_law_part) []) (aCons (dVar 1) (aCons (dC (.int 0)) (aCons (dC (.int 7)) aNil)))) (aCons (dPrim (cP (pureOf F_law_part) []) (aCons (dVar 1) (aCons (dC (.int 1)) (aCons (dC (.int 5)) aNil)))) aNil))))
  (dSeq (dSet 4 (dBin pAdd (dC (.int 1)) (dPrim (cP (pureOf F_law_part) []) (aCons (dVar 1) (aCons (dC (.int 2)) (aCons (dC (.int 9)) aNil))))))
  (dSeq (dIfS (dBin (pEq false) (dPrim (cP (pureOf F_law_part) []) (aCons (dVar 1) (aCons (dC (.int 3)) (aCons (dC (.int 8)) aNil)))) (dC (.int 1))) (dSet 4 (dBin pAdd (dC (.int 1)) (dPrim (cP (pureOf F_law_part) []) (aCons (dVar 1) (aCons (dC (.int 4)) (aCons (dC (.int 59)) aNil)))))) dNext)
  (dSeq (dSet 5 (dLc (iRange1 (aCons (dBin pIx (dVar 3) (dC (.int 0))) aNil)) (gSet 8) (dC (.bl true)) (dPrim (cP (pureOf F_law_name) []) (aCons (dVar 2) (aCons (dVar 8) aNil))) [8]))
  (dSeq (dSet 6 (dLc (iRange1 (aCons (dBin pIx (dVar 3) (dC (.int 1))) aNil)) (gSet 8) (dC (.bl true)) (dPrim (cP (pureOf F_law_name) []) (aCons (dVar 2) (aCons (dBin pAdd (dC (.int 6)) (dVar 8)) aNil))) [8]))
  (dSeq (dSet 7 (dLcM (iRange1 (aCons (dVar 4) aNil)) (gSet 8) (dC (.bl true)) (dPrim (cP (pureOf F_law_row) []) (aCons (dPrim (cP (pureOf F_law_cell) []) (aCons (dVar 0) (aCons (dBin pAdd (dC (.int 5)) (dVar 8)) aNil))) (aCons (dVar 2) (aCons (dVar 3) (aCons (dVar 4) aNil))))) [8]))
  (dSeq (dExpr (dMt pAppend (dVar 7) (aCons (dBin pIx (dPrim pLst (aCons (dPrim pTup (aCons (dC (.str "end")) (aCons (dC (.int 0)) aNil))) (aCons (dPrim pTup (aCons (dC (.str "go")) (aCons (dPrim (cP (pureOf F_law_part) []) (aCons (dVar 1) (aCons (dC (.int 6)) (aCons (dBin pAdd (dVar 4) (dC (.int 1))) aNil)))) aNil))) (aCons (dPrim pTup (aCons (dC (.str "end")) (aCons (dC (.int 7)) aNil))) aNil)))) (dPrim (cP (pureOf F_law_part) []) (aCons (dVar 1) (aCons (dC (.int 7)) (aCons (dC (.int 3)) aNil))))) aNil)))
  (dSeq (dFor (iRange1 (aCons (dPrim (cP (pureOf F_law_part) []) (aCons (dVar 1) (aCons (dC (.int 5)) (aCons (dC (.int 3)) aNil)))) aNil)) (gSet 8) (dSet 7 (dPrim (cP (pureOf F_law_spoilt) []) (aCons (dVar 7) (aCons (dVar 3) (aCons (dVar 2) (aCons (dPrim (cP (pureOf F_law_cell) []) (aCons (dVar 0) (aCons (dBin pAdd (dC (.int 2)) (dVar 8)) aNil))) aNil)))))))
  (dSeq (dSet 9 (dLc (iSeq (dVar 5)) (gSet 13) (dC (.bl true)) (dPrim pTup (aCons (dVar 13) (aCons (dC (.int 5)) (aCons (dBin (pEq false) (dBin pMod (dPrim pLen (aCons (dVar 13) aNil)) (dC (.int 2))) (dC (.int 1))) aNil)))) [13]))
  (dSeq (dSet 10 (dLc (iEnum2 (aCons (dVar 6) aNil)) (gTupD 2 (gsCons (gSet 8) (gsCons (gSet 13) gsNil))) (dC (.bl true)) (dPrim pTup (aCons (dVar 13) (aCons (dBin pAdd (dC (.int 1)) (dBin pMod (dVar 8) (dC (.int 8)))) (aCons (dBin (pEq false) (dBin pMod (dVar 8) (dC (.int 2))) (dC (.int 0))) aNil)))) [8, 13]))
  (dSeq (dSet 11 (dPrim pTup (aCons (dPrim pTuple (aCons (dVar 9) aNil)) (aCons (dPrim pTuple (aCons (dVar 10) aNil)) (aCons (dPrim pTuple (aCons (dVar 7) aNil)) aNil)))))
  (dSeq (dSet 12 (dPrim (cP (pureOf F_law_due) []) (aCons (dVar 5) (aCons (dVar 6) (aCons (dVar 7) aNil)))))
  (dSeq (dIfS (dNot (dPrim (cP (pureOf F_law_made) []) (aCons (dPrim (cP (pureOf F_law_name) []) (aCons (dVar 2) (aCons (dC (.int 3)) aNil))) (aCons (dPrim (cP (pureOf F_law_part) []) (aCons (dVar 1) (aCons (dC (.int 6)) (aCons (dC (.int 60)) aNil)))) aNil)))) (dRet (dC (.bl false))) dNext)
  (dSeq (dIfS (dOr (dBin (pEq true) (dPrim (cP (pureOf F_law_told) []) (aCons (dVar 11) aNil)) (dVar 12)) (dBin (pIsB true) (dPrim (cX F_look) (aCons (dPrim pTup (aCons (dPrim pTup aNil) (aCons (dPrim pTup aNil) (aCons (dPrim pTup (aCons (dPrim pTup (aCons (dC (.str "end")) (aCons (dC (.int 3)) aNil))) aNil)) aNil)))) aNil)) (dC (.bl true)))) (dRet (dC (.bl false))) dNext)
  (dRet (dBin (pEq false) (dPrim (cP (pureOf F_law_told) []) (aCons (dVar 11) aNil)) (dVar 12)))))))))))))))))))
def F_law : PL := runF 1 14 b_law
/-! ### facts of the head -/
abbrev Fx (K : PySem.W.Frag) (mg : Str → Option Value) : Prop := Facts fa fn ex K mg
section
variable {K : PySem.W.Frag} {mg : Str → Option Value} {P : Program} {w : World} {base : Heap}
theorem Fx.tb (Y : Fx K mg) : TB mg := Y.tb0 ⟨fac, rfl⟩
theorem Fx.at (Y : Fx K mg) : ATOk K AT := atOk_of (Bool.and_eq_true_iff.mp (Bool.and_eq_true_iff.mp (Bool.and_eq_true_iff.mp (show ex K = true from Y.e)).1).1).1
theorem Fx.xt (Y : Fx K mg) : xtB K XT = true := (Bool.and_eq_true_iff.mp (Bool.and_eq_true_iff.mp (Bool.and_eq_true_iff.mp (show ex K = true from Y.e)).1).1).2
theorem Fx.xi (Y : Fx K mg) : xiB K XJ1 XJ2 = true := (Bool.and_eq_true_iff.mp (Bool.and_eq_true_iff.mp (show ex K = true from Y.e)).1).2
theorem Fx.xc_DimError (Y : Fx K mg) : ∀ C, XC_DimError.contains C = true → PySem.W.exmOne K (.ref (He.ga K C)) (.ref (He.ga K "DimError")) = some true := xcB_ok (Bool.and_eq_true_iff.mp (show ex K = true from Y.e)).2
theorem sc_BadLine_init : FnScope ["self", "at"] ["self", "at"] (defScope s_BadLine_init) := ⟨rfl, rfl, rfl, by decide +kernel, rfl, by decide +kernel, by decide +kernel⟩
theorem ok_exc_BadLine (Y : Fx K mg) : XcC P w K mg base "BadLine" ["at"] := by
  obtain ⟨fd, FD⟩ := Y.c.def_ 0 (d := d_BadLine_init) rfl
  have T := xtB_ok Y.xt (C := "BadLine") (t := ("BadLine", ["at"])) rfl
  exact ⟨Y.glo 15, T, fd, init1_ok FD sc_BadLine_init T (by decide) (fun cdv A outer s H E => pss_one (ps_ost (pv 0) (pv 1))), FunD.bindsN FD fun _ _ _ _ _ _ us hl => match us, hl with | [_, _], _ => rfl⟩
theorem sc_Twice_init : FnScope ["self", "word"] ["self", "word"] (defScope s_Twice_init) := ⟨rfl, rfl, rfl, by decide +kernel, rfl, by decide +kernel, by decide +kernel⟩
theorem ok_exc_Twice (Y : Fx K mg) : XcC P w K mg base "Twice" ["word"] := by
  obtain ⟨fd, FD⟩ := Y.c.def_ 1 (d := d_Twice_init) rfl
  have T := xtB_ok Y.xt (C := "Twice") (t := ("Twice", ["word"])) rfl
  exact ⟨Y.glo 16, T, fd, init1_ok FD sc_Twice_init T (by decide) (fun cdv A outer s H E => pss_one (ps_ost (pv 0) (pv 1))), FunD.bindsN FD fun _ _ _ _ _ _ us hl => match us, hl with | [_, _], _ => rfl⟩
theorem sc_NoLabel_init : FnScope ["self", "word"] ["self", "word"] (defScope s_NoLabel_init) := ⟨rfl, rfl, rfl, by decide +kernel, rfl, by decide +kernel, by decide +kernel⟩
theorem ok_exc_NoLabel (Y : Fx K mg) : XcC P w K mg base "NoLabel" ["word"] := by
  obtain ⟨fd, FD⟩ := Y.c.def_ 2 (d := d_NoLabel_init) rfl
  have T := xtB_ok Y.xt (C := "NoLabel") (t := ("NoLabel", ["word"])) rfl
  exact ⟨Y.glo 17, T, fd, init1_ok FD sc_NoLabel_init T (by decide) (fun cdv A outer s H E => pss_one (ps_ost (pv 0) (pv 1))), FunD.bindsN FD fun _ _ _ _ _ _ us hl => match us, hl with | [_, _], _ => rfl⟩
theorem sc_Unknown_init : FnScope ["self", "word", "row"] ["self", "word", "row"] (defScope s_Unknown_init) := ⟨rfl, rfl, rfl, by decide +kernel, rfl, by decide +kernel, by decide +kernel⟩
theorem ok_exc_Unknown (Y : Fx K mg) : XcC P w K mg base "Unknown" ["word", "row"] := by
  obtain ⟨fd, FD⟩ := Y.c.def_ 3 (d := d_Unknown_init) rfl
  have T := xtB_ok Y.xt (C := "Unknown") (t := ("Unknown", ["word", "row"])) rfl
  exact ⟨Y.glo 18, T, fd, init2_ok FD sc_Unknown_init T (by decide) (by decide) (fun cdv A outer s H E => pss_cons (ps_ost (pv 0) (pv 1)) (pss_one (ps_ost (pv 0) (pv 2)))), FunD.bindsN FD fun _ _ _ _ _ _ us hl => match us, hl with | [_, _, _], _ => rfl⟩
theorem sc_Falls_init : FnScope ["self", "row"] ["self", "row"] (defScope s_Falls_init) := ⟨rfl, rfl, rfl, by decide +kernel, rfl, by decide +kernel, by decide +kernel⟩
theorem ok_exc_Falls (Y : Fx K mg) : XcC P w K mg base "Falls" ["row"] := by
  obtain ⟨fd, FD⟩ := Y.c.def_ 4 (d := d_Falls_init) rfl
  have T := xtB_ok Y.xt (C := "Falls") (t := ("Falls", ["row"])) rfl
  exact ⟨Y.glo 19, T, fd, init1_ok FD sc_Falls_init T (by decide) (fun cdv A outer s H E => pss_one (ps_ost (pv 0) (pv 1))), FunD.bindsN FD fun _ _ _ _ _ _ us hl => match us, hl with | [_, _], _ => rfl⟩
theorem sc_worked_on : FnScope ["row"] ["row"] (defScope s_worked_on) := ⟨rfl, rfl, rfl, by decide +kernel, rfl, by decide +kernel, by decide +kernel⟩
theorem ok_worked_on_fn {f : Addr} {fd : FuncData} (FD : FunD K d_worked_on.name d_worked_on.qual d_worked_on.params d_worked_on.body d_worked_on.scope (He.DefD.dvs K d_worked_on) (He.DefD.kws K d_worked_on) f fd) (Y : Fx K mg) : FnOk P w K mg base CX0 1 f fd ["row"] (spS K 1 F_worked_on) := by
  refine fn_ok FD sc_worked_on fun cdv A outer s H E hr => ?_
  exact (sds_cons (sd_if (td_eq hr (ed_ix hr (ed_var (pv 0)) ed_int (fun _ _ => rfl)) ed_str) (sds_one (sd_ret (ed_tup (ad_cons ed_bl (ad_cons (ed_ix hr (ed_var (pv 0)) ed_int (fun _ _ => rfl)) ad_nil))))) sds_nil)
  (sds_cons (sd_if (td_eq hr (ed_ix hr (ed_var (pv 0)) ed_int (fun _ _ => rfl)) ed_str) (sds_one (sd_ret (ed_tup (ad_cons ed_bl (ad_cons (ed_ix hr (ed_var (pv 0)) ed_int (fun _ _ => rfl)) ad_nil))))) sds_nil)
  (sds_cons (sd_if (td_eq hr (ed_ix hr (ed_var (pv 0)) ed_int (fun _ _ => rfl)) ed_str) (sds_one (sd_ret (ed_tup (ad_cons ed_bl (ad_cons (ed_ix hr (ed_var (pv 0)) ed_int (fun _ _ => rfl)) ad_nil))))) sds_nil)
  (sds_cons (sd_if (td_eq hr (ed_ix hr (ed_var (pv 0)) ed_int (fun _ _ => rfl)) ed_str) (sds_one (sd_ret (ed_tup (ad_cons ed_bl (ad_cons (ed_ix hr (ed_var (pv 0)) ed_int (fun _ _ => rfl)) ad_nil))))) sds_nil)
  (sds_one (sd_ret ed_non))))))
theorem ok_worked_on (Y : Fx K mg) : FnC P w K mg base "worked_on" 1 ["row"] [] F_worked_on := by
  obtain ⟨fd, FD⟩ := Y.c.def_ 5 (d := d_worked_on) rfl
  exact FnC.of FD (Y.glo 0) (ok_worked_on_fn FD Y) fun _ _ _ _ _ _ us hl => match us, hl with | [_], _ => rfl
theorem sc_leads : FnScope ["row", "at"] ["row", "at"] (defScope s_leads) := ⟨rfl, rfl, rfl, by decide +kernel, rfl, by decide +kernel, by decide +kernel⟩
theorem ok_leads_fn {f : Addr} {fd : FuncData} (FD : FunD K d_leads.name d_leads.qual d_leads.params d_leads.body d_leads.scope (He.DefD.dvs K d_leads) (He.DefD.kws K d_leads) f fd) (Y : Fx K mg) : FnOk P w K mg base CX0 1 f fd ["row", "at"] (spS K 2 F_leads) := by
  refine fn_ok FD sc_leads fun cdv A outer s H E hr => ?_
  exact (sds_cons (sd_if (td_eq hr (ed_ix hr (ed_var (pv 0)) ed_int (fun _ _ => rfl)) ed_str) (sds_one (sd_ret ed_non)) sds_nil)
  (sds_cons (sd_if (td_eq hr (ed_ix hr (ed_var (pv 0)) ed_int (fun _ _ => rfl)) ed_str) (sds_one (sd_ret (ed_ix hr (ed_var (pv 0)) ed_int (fun _ _ => rfl)))) sds_nil)
  (sds_cons (sd_if (td_eq hr (ed_ix hr (ed_var (pv 0)) ed_int (fun _ _ => rfl)) ed_str) (sds_one (sd_ret (ed_prim (fun ha => pe_callB (x := "max") (call_maxAll rfl) (by rfl) Y.tb.max boot_max ha) ok_max (ad_cons (ed_ix hr (ed_var (pv 0)) ed_int (fun _ _ => rfl)) (ad_cons (ed_add (ed_var (pv 1)) ed_int) ad_nil))))) sds_nil)
  (sds_one (sd_ret (ed_add (ed_var (pv 1)) ed_int))))))
theorem ok_leads (Y : Fx K mg) : FnC P w K mg base "leads" 1 ["row", "at"] [] F_leads := by
  obtain ⟨fd, FD⟩ := Y.c.def_ 6 (d := d_leads) rfl
  exact FnC.of FD (Y.glo 1) (ok_leads_fn FD Y) fun _ _ _ _ _ _ us hl => match us, hl with | [_, _], _ => rfl
theorem sc_look : FnScope ["program", "told", "cells", "shelves", "rows", "at", "row", "found", "goal", "one"] ["program"] (defScope s_look) := ⟨rfl, rfl, rfl, by decide +kernel, rfl, by decide +kernel, by decide +kernel⟩
theorem ok_look_fn {f : Addr} {fd : FuncData} (FD : FunD K d_look.name d_look.qual d_look.params d_look.body d_look.scope (He.DefD.dvs K d_look) (He.DefD.kws K d_look) f fd) (Y : Fx K mg) : FnOk P w K mg base (L2.CX P w) 3 f fd ["program"] (spX K 1 F_look) := by
  refine fn_okX FD sc_look fun cdv A outer s H E hr => ?_
  exact (sxs_cons (sx_lift (sd_asg (ps_asg (ED.pe (ed_var (pv 0))) (GD.pg (gd_t rfl (gds_c (gd_name (pg_name (i := 2) sc_look.nd rfl (by first | exact .inl rfl | exact .inr rfl))) (gds_c (gd_name (pg_name (i := 3) sc_look.nd rfl (by first | exact .inl rfl | exact .inr rfl))) (gds_c (gd_name (pg_name (i := 4) sc_look.nd rfl (by first | exact .inl rfl | exact .inr rfl))) gds_nil))))))))
  (sxs_cons (sx_lift (sd_set (ps_set (i := 1) sc_look.nd rfl (by first | exact .inl rfl | exact .inr rfl) (ED.pe (ed_lst (ad_cons (ed_lc (pe_lc (own := [("one", 9)]) rfl sc_look.nd (Dn.ID.pi (id_seq (ed_var (pv 2)))) (blkOk_by (by rfl)) (fun _ _ _ _ _ => (pg_name (i := 9) sc_look.nd rfl (by first | exact .inl rfl | exact .inr rfl))) (fun _ _ _ _ _ => pts_nil) (fun _ _ _ _ _ => (ED.pe (ed_ix hr (ed_var (pv 9)) ed_int (fun _ _ => rfl))))) (gw_name (by decide)) yes_of) (ad_cons (ed_lc (pe_lc (own := [("one", 9)]) rfl sc_look.nd (Dn.ID.pi (id_seq (ed_var (pv 3)))) (blkOk_by (by rfl)) (fun _ _ _ _ _ => (pg_name (i := 9) sc_look.nd rfl (by first | exact .inl rfl | exact .inr rfl))) (fun _ _ _ _ _ => pts_nil) (fun _ _ _ _ _ => (ED.pe (ed_ix hr (ed_var (pv 9)) ed_int (fun _ _ => rfl))))) (gw_name (by decide)) yes_of) ad_nil)))))))
  (sxs_cons (sx_for (ps_for (passes_of rfl) rfl (Dn.ID.pi (id_enum2 (ad_cons (ed_var (pv 4)) ad_nil) (fun ha => pi_enum (by rfl) Y.tb.enumerate ha) (fun ha => pi_enumT (by rfl) Y.tb.enumerate ha))) (GD.pg (gd_t rfl (gds_c (gd_name (pg_name (i := 5) sc_look.nd rfl (by first | exact .inl rfl | exact .inr rfl))) (gds_c (gd_name (pg_name (i := 6) sc_look.nd rfl (by first | exact .inl rfl | exact .inr rfl))) gds_nil)))) (SXs.ps (sxs_cons (sx_lift (sd_set (ps_set (i := 7) sc_look.nd rfl (by first | exact .inl rfl | exact .inr rfl) (ED.pe (ed_callP (ok_worked_on Y) rfl hr (by decide) (by rfl) dd0 (ad_cons (ed_var (pv 6)) ad_nil))))))
  (sxs_one (sx_if (TDW.td (tw_and (td_isnot (ed_var (pv 7)) ed_non) (tw_and1 (td_notin hr (ed_ix hr (ed_var (pv 7)) ed_int (fun _ _ => rfl)) (ed_ix hr (ed_var (pv 1)) (ed_prim (fun ha => pe_callTy (x := "int") call_intAll (by rfl) Y.tb.int boot_int ha) ok_int (ad_cons (ed_ix hr (ed_var (pv 7)) ed_int (fun _ _ => rfl)) ad_nil)) (fun _ _ => rfl)) rfl)))) (sxs_one (sx_raise rfl (takes_of rfl rfl rfl rfl) (ok_exc_Unknown Y) hr (by decide) (by rfl) (ad_cons (ed_ix hr (ed_var (pv 7)) ed_int (fun _ _ => rfl)) (ad_cons (ed_var (pv 5)) ad_nil)))) sxs_nil))))))
  (sxs_cons (sx_if (td_eq hr (ed_prim (fun ha => pe_callB (x := "len") call_lenAll (by rfl) Y.tb.len boot_len ha) ok_len (ad_cons (ed_var (pv 4)) ad_nil)) ed_int) (sxs_one (sx_raise rfl (takes_of rfl rfl rfl rfl) (ok_exc_Falls Y) hr (by decide) (by rfl) (ad_cons ed_int ad_nil))) sxs_nil)
  (sxs_cons (sx_for (ps_for (passes_of rfl) rfl (Dn.ID.pi (id_enum2 (ad_cons (ed_var (pv 4)) ad_nil) (fun ha => pi_enum (by rfl) Y.tb.enumerate ha) (fun ha => pi_enumT (by rfl) Y.tb.enumerate ha))) (GD.pg (gd_t rfl (gds_c (gd_name (pg_name (i := 5) sc_look.nd rfl (by first | exact .inl rfl | exact .inr rfl))) (gds_c (gd_name (pg_name (i := 6) sc_look.nd rfl (by first | exact .inl rfl | exact .inr rfl))) gds_nil)))) (SXs.ps (sxs_cons (sx_lift (sd_set (ps_set (i := 8) sc_look.nd rfl (by first | exact .inl rfl | exact .inr rfl) (ED.pe (ed_callP (ok_leads Y) rfl hr (by decide) (by rfl) dd0 (ad_cons (ed_var (pv 6)) (ad_cons (ed_var (pv 5)) ad_nil)))))))
  (sxs_one (sx_if (TDW.td (tw_and (td_isnot (ed_var (pv 8)) ed_non) (tw_and1 (td_ge (ed_var (pv 8)) (ed_prim (fun ha => pe_callB (x := "len") call_lenAll (by rfl) Y.tb.len boot_len ha) ok_len (ad_cons (ed_var (pv 4)) ad_nil)))))) (sxs_one (sx_raise rfl (takes_of rfl rfl rfl rfl) (ok_exc_Falls Y) hr (by decide) (by rfl) (ad_cons (ed_var (pv 5)) ad_nil))) sxs_nil))))))
  (sxs_one (sx_lift (sd_ret ed_bl))))))))
theorem ok_look (Y : Fx K mg) : FnX P w K mg base "look" 3 ["program"] F_look := by
  obtain ⟨fd, FD⟩ := Y.c.def_ 7 (d := d_look) rfl
  exact FnX.of FD (Y.glo 2) (ok_look_fn FD Y) fun _ _ _ _ _ _ us hl => match us, hl with | [_], _ => rfl
theorem sc_law_cell : FnScope ["_law_script", "_law_k", "_law_seed"] ["_law_script", "_law_k"] (defScope s_law_cell) := ⟨rfl, rfl, rfl, by decide +kernel, rfl, by decide +kernel, by decide +kernel⟩
theorem ok_law_cell_fn {f : Addr} {fd : FuncData} (FD : FunD K d_law_cell.name d_law_cell.qual d_law_cell.params d_law_cell.body d_law_cell.scope (He.DefD.dvs K d_law_cell) (He.DefD.kws K d_law_cell) f fd) (Y : Fx K mg) : FnOk P w K mg base CX0 1 f fd ["_law_script", "_law_k"] (spS K 2 F_law_cell) := by
  refine fn_ok FD sc_law_cell fun cdv A outer s H E hr => ?_
  exact (sds_cons (sd_if (td_lt (ed_var (pv 1)) (ed_prim (fun ha => pe_callB (x := "len") call_lenAll (by rfl) Y.tb.len boot_len ha) ok_len (ad_cons (ed_var (pv 0)) ad_nil))) (sds_one (sd_ret (ed_ix hr (ed_var (pv 0)) (ed_var (pv 1)) (fun _ _ => rfl)))) sds_nil)
  (sds_cons (sd_set (ps_set (i := 2) sc_law_cell.nd rfl (by first | exact .inl rfl | exact .inr rfl) (ED.pe ed_int)))
  (sds_cons (sd_if (td_gt (ed_prim (fun ha => pe_callB (x := "len") call_lenAll (by rfl) Y.tb.len boot_len ha) ok_len (ad_cons (ed_var (pv 0)) ad_nil)) ed_int) (sds_one (sd_set (ps_set (i := 2) sc_law_cell.nd rfl (by first | exact .inl rfl | exact .inr rfl) (ED.pe (ed_mod (ed_ix hr (ed_var (pv 0)) (ed_mod (ed_var (pv 1)) (ed_prim (fun ha => pe_callB (x := "len") call_lenAll (by rfl) Y.tb.len boot_len ha) ok_len (ad_cons (ed_var (pv 0)) ad_nil))) (fun _ _ => rfl)) ed_int))))) sds_nil)
  (sds_one (sd_ret (ed_mod (ed_mul (ed_add (ed_add (ed_var (pv 2)) (ed_mul ed_int (ed_var (pv 1)))) ed_int) (ed_add (ed_add (ed_var (pv 2)) (ed_mul ed_int (ed_var (pv 1)))) ed_int)) ed_int))))))
theorem ok_law_cell (Y : Fx K mg) : FnC P w K mg base "_law_cell" 1 ["_law_script", "_law_k"] [] F_law_cell := by
  obtain ⟨fd, FD⟩ := Y.c.def_ 8 (d := d_law_cell) rfl
  exact FnC.of FD (Y.glo 3) (ok_law_cell_fn FD Y) fun _ _ _ _ _ _ us hl => match us, hl with | [_, _], _ => rfl
theorem sc_law_part : FnScope ["_law_cell_here", "_law_j", "_law_many", "_law_primes"] ["_law_cell_here", "_law_j", "_law_many"] (defScope s_law_part) := ⟨rfl, rfl, rfl, by decide +kernel, rfl, by decide +kernel, by decide +kernel⟩
theorem ok_law_part_fn {f : Addr} {fd : FuncData} (FD : FunD K d_law_part.name d_law_part.qual d_law_part.params d_law_part.body d_law_part.scope (He.DefD.dvs K d_law_part) (He.DefD.kws K d_law_part) f fd) (Y : Fx K mg) : FnOk P w K mg base CX0 1 f fd ["_law_cell_here", "_law_j", "_law_many"] (spS K 3 F_law_part) := by
  refine fn_ok FD sc_law_part fun cdv A outer s H E hr => ?_
  exact (sds_cons (sd_set (ps_set (i := 3) sc_law_part.nd rfl (by first | exact .inl rfl | exact .inr rfl) (ED.pe (ed_tup (ad_cons ed_int (ad_cons ed_int (ad_cons ed_int (ad_cons ed_int (ad_cons ed_int (ad_cons ed_int (ad_cons ed_int (ad_cons ed_int ad_nil))))))))))))
  (sds_one (sd_ret (ed_mod (ed_mod (ed_add (ed_mul (ed_var (pv 0)) ed_int) (ed_mul ed_int (ed_var (pv 1)))) (ed_ix hr (ed_var (pv 3)) (ed_mod (ed_var (pv 1)) ed_int) (fun _ _ => rfl))) (ed_var (pv 2))))))
theorem ok_law_part (Y : Fx K mg) : FnC P w K mg base "_law_part" 1 ["_law_cell_here", "_law_j", "_law_many"] [] F_law_part := by
  obtain ⟨fd, FD⟩ := Y.c.def_ 9 (d := d_law_part) rfl
  exact FnC.of FD (Y.glo 4) (ok_law_part_fn FD Y) fun _ _ _ _ _ _ us hl => match us, hl with | [_, _, _], _ => rfl
theorem sc_law_name : FnScope ["_law_base", "_law_k", "_law_letters", "_law_size", "_law_some", "_law_j"] ["_law_base", "_law_k"] (defScope s_law_name) := ⟨rfl, rfl, rfl, by decide +kernel, rfl, by decide +kernel, by decide +kernel⟩
theorem ok_law_name_fn {f : Addr} {fd : FuncData} (FD : FunD K d_law_name.name d_law_name.qual d_law_name.params d_law_name.body d_law_name.scope (He.DefD.dvs K d_law_name) (He.DefD.kws K d_law_name) f fd) (Y : Fx K mg) : FnOk P w K mg base CX0 2 f fd ["_law_base", "_law_k"] (spS K 2 F_law_name) := by
  refine fn_ok FD sc_law_name fun cdv A outer s H E hr => ?_
  exact (sds_cons (sd_set (ps_set (i := 2) sc_law_name.nd rfl (by first | exact .inl rfl | exact .inr rfl) (ED.pe ed_str)))
  (sds_cons (sd_set (ps_set (i := 3) sc_law_name.nd rfl (by first | exact .inl rfl | exact .inr rfl) (ED.pe (ed_add ed_int (ed_callP (ok_law_part Y) rfl hr (by decide) (by rfl) dd0 (ad_cons (ed_var (pv 0)) (ad_cons ed_int (ad_cons ed_int ad_nil))))))))
  (sds_cons (sd_setLcM (i := 4) (ps_setLc (own := [("_law_j", 5)]) rfl sc_law_name.nd rfl rfl rfl (Dn.ID.pi (id_range1 (ad_cons (ed_var (pv 3)) ad_nil) (fun ha => pi_range1 (by rfl) Y.tb.range ha))) (blkOk_by (by rfl)) (fun _ _ _ _ _ => (pg_name (i := 5) sc_law_name.nd rfl (by first | exact .inl rfl | exact .inr rfl))) (fun _ _ _ _ _ => pts_nil) (fun _ _ _ _ _ => (ED.pe (ed_ix hr (ed_var (pv 2)) (ed_callP (ok_law_part Y) rfl hr (by decide) (by rfl) dd0 (ad_cons (ed_var (pv 0)) (ad_cons (ed_var (pv 5)) (ad_cons ed_int ad_nil)))) (fun _ _ => rfl))))) (gw_name (by decide)) yes_of)
  (sds_cons (sd_sub (ps_asg (ED.pe (ed_ix hr (ed_var (pv 2)) (ed_mod (ed_add (ed_callP (ok_law_part Y) rfl hr (by decide) (by rfl) dd0 (ad_cons (ed_var (pv 0)) (ad_cons ed_int (ad_cons ed_int ad_nil)))) (ed_var (pv 1))) ed_int) (fun _ _ => rfl))) (pg_sub (ED.pe (ed_var (pv 4))) (ED.pe (ed_callP (ok_law_part Y) rfl hr (by decide) (by rfl) dd0 (ad_cons (ed_var (pv 0)) (ad_cons ed_int (ad_cons (ed_var (pv 3)) ad_nil))))) (PSet.or set_list (set_dict (hu1 hr))))))
  (sds_one (sd_ret (ed_m1 ok_join ed_str (ed_var (pv 4)) (fun ho hb => pe_join ho hb))))))))
theorem ok_law_name (Y : Fx K mg) : FnC P w K mg base "_law_name" 2 ["_law_base", "_law_k"] [] F_law_name := by
  obtain ⟨fd, FD⟩ := Y.c.def_ 10 (d := d_law_name) rfl
  exact FnC.of FD (Y.glo 5) (ok_law_name_fn FD Y) fun _ _ _ _ _ _ us hl => match us, hl with | [_, _], _ => rfl
theorem sc_law_row : FnScope ["_law_cell_here", "_law_base", "_law_sizes", "_law_many", "_law_x", "_law_a", "_law_kind", "_law_c", "_law_f", "_law_goal"] ["_law_cell_here", "_law_base", "_law_sizes", "_law_many"] (defScope s_law_row) := ⟨rfl, rfl, rfl, by decide +kernel, rfl, by decide +kernel, by decide +kernel⟩
theorem ok_law_row_fn {f : Addr} {fd : FuncData} (FD : FunD K d_law_row.name d_law_row.qual d_law_row.params d_law_row.body d_law_row.scope (He.DefD.dvs K d_law_row) (He.DefD.kws K d_law_row) f fd) (Y : Fx K mg) : FnOk P w K mg base CX0 3 f fd ["_law_cell_here", "_law_base", "_law_sizes", "_law_many"] (spS K 4 F_law_row) := by
  refine fn_ok FD sc_law_row fun cdv A outer s H E hr => ?_
  exact (sds_cons (sd_set (ps_set (i := 4) sc_law_row.nd rfl (by first | exact .inl rfl | exact .inr rfl) (ED.pe (ed_callP (ok_law_name Y) rfl hr (by decide) (by rfl) dd0 (ad_cons (ed_var (pv 1)) (ad_cons (ed_add ed_int (ed_callP (ok_law_part Y) rfl hr (by decide) (by rfl) dd0 (ad_cons (ed_var (pv 0)) (ad_cons ed_int (ad_cons ed_int ad_nil))))) ad_nil))))))
  (sds_cons (sd_set (ps_set (i := 5) sc_law_row.nd rfl (by first | exact .inl rfl | exact .inr rfl) (ED.pe (ed_ix hr (ed_lst (ad_cons (ed_var (pv 4)) (ad_cons (ed_callP (ok_law_name Y) rfl hr (by decide) (by rfl) dd0 (ad_cons (ed_var (pv 1)) (ad_cons (ed_add ed_int (ed_callP (ok_law_part Y) rfl hr (by decide) (by rfl) dd0 (ad_cons (ed_var (pv 0)) (ad_cons ed_int (ad_cons ed_int ad_nil))))) ad_nil))) (ad_cons (ed_mod (ed_mul (ed_var (pv 0)) ed_int) (ed_pow ed_int ed_int)) ad_nil)))) (ed_callP (ok_law_part Y) rfl hr (by decide) (by rfl) dd0 (ad_cons (ed_var (pv 0)) (ad_cons ed_int (ad_cons ed_int ad_nil)))) (fun _ _ => rfl)))))
  (sds_cons (sd_set (ps_set (i := 6) sc_law_row.nd rfl (by first | exact .inl rfl | exact .inr rfl) (ED.pe (ed_callP (ok_law_part Y) rfl hr (by decide) (by rfl) dd0 (ad_cons (ed_var (pv 0)) (ad_cons ed_int (ad_cons ed_int ad_nil)))))))
  (sds_cons (sd_if (TDW.td (tw_and (td_lt (ed_var (pv 6)) ed_int) (tw_and1 (td_gt (ed_ix hr (ed_var (pv 2)) ed_int (fun _ _ => rfl)) ed_int)))) (sds_cons (sd_set (ps_set (i := 7) sc_law_row.nd rfl (by first | exact .inl rfl | exact .inr rfl) (ED.pe (ed_callP (ok_law_name Y) rfl hr (by decide) (by rfl) dd0 (ad_cons (ed_var (pv 1)) (ad_cons (ed_callP (ok_law_part Y) rfl hr (by decide) (by rfl) dd0 (ad_cons (ed_var (pv 0)) (ad_cons ed_int (ad_cons (ed_ix hr (ed_var (pv 2)) ed_int (fun _ _ => rfl)) ad_nil)))) ad_nil))))))
  (sds_one (sd_ret (ed_ix hr (ed_lst (ad_cons (ed_tup (ad_cons ed_str (ad_cons (ed_var (pv 4)) (ad_cons (ed_var (pv 7)) ad_nil)))) (ad_cons (ed_tup (ad_cons ed_str (ad_cons (ed_var (pv 7)) (ad_cons (ed_var (pv 5)) ad_nil)))) ad_nil))) (ed_mod (ed_var (pv 6)) ed_int) (fun _ _ => rfl))))) sds_nil)
  (sds_cons (sd_if (TDW.td (tw_and (td_lt (ed_var (pv 6)) ed_int) (tw_and1 (td_gt (ed_ix hr (ed_var (pv 2)) ed_int (fun _ _ => rfl)) ed_int)))) (sds_cons (sd_set (ps_set (i := 8) sc_law_row.nd rfl (by first | exact .inl rfl | exact .inr rfl) (ED.pe (ed_callP (ok_law_name Y) rfl hr (by decide) (by rfl) dd0 (ad_cons (ed_var (pv 1)) (ad_cons (ed_add ed_int (ed_callP (ok_law_part Y) rfl hr (by decide) (by rfl) dd0 (ad_cons (ed_var (pv 0)) (ad_cons ed_int (ad_cons (ed_ix hr (ed_var (pv 2)) ed_int (fun _ _ => rfl)) ad_nil))))) ad_nil))))))
  (sds_one (sd_ret (ed_ix hr (ed_lst (ad_cons (ed_tup (ad_cons ed_str (ad_cons (ed_var (pv 4)) (ad_cons (ed_var (pv 8)) (ad_cons (ed_var (pv 5)) ad_nil))))) (ad_cons (ed_tup (ad_cons ed_str (ad_cons (ed_var (pv 8)) (ad_cons (ed_var (pv 5)) (ad_cons ed_int ad_nil))))) ad_nil))) (ed_mod (ed_var (pv 6)) ed_int) (fun _ _ => rfl))))) sds_nil)
  (sds_cons (sd_if (td_lt (ed_var (pv 6)) ed_int) (sds_one (sd_ret (ed_tup (ad_cons ed_str (ad_cons (ed_var (pv 4)) (ad_cons (ed_ix hr ed_str (ed_callP (ok_law_part Y) rfl hr (by decide) (by rfl) dd0 (ad_cons (ed_var (pv 0)) (ad_cons ed_int (ad_cons ed_int ad_nil)))) (fun _ _ => rfl)) (ad_cons (ed_var (pv 5)) (ad_cons ed_int ad_nil)))))))) sds_nil)
  (sds_cons (sd_if (td_gt (ed_var (pv 6)) ed_int) (sds_cons (sd_set (ps_set (i := 9) sc_law_row.nd rfl (by first | exact .inl rfl | exact .inr rfl) (ED.pe (ed_callP (ok_law_part Y) rfl hr (by decide) (by rfl) dd0 (ad_cons (ed_var (pv 0)) (ad_cons ed_int (ad_cons (ed_var (pv 3)) ad_nil)))))))
  (sds_one (sd_ret (ed_ix hr (ed_lst (ad_cons (ed_tup (ad_cons ed_str (ad_cons (ed_var (pv 5)) (ad_cons (ed_var (pv 9)) ad_nil)))) (ad_cons (ed_tup (ad_cons ed_str (ad_cons (ed_var (pv 9)) ad_nil))) ad_nil))) (ed_sub (ed_var (pv 6)) ed_int) (fun _ _ => rfl))))) sds_nil)
  (sds_one (sd_ret (ed_ix hr (ed_lst (ad_cons (ed_tup (ad_cons ed_str (ad_cons (ed_var (pv 4)) (ad_cons (ed_var (pv 5)) ad_nil)))) (ad_cons (ed_tup (ad_cons ed_str (ad_cons (ed_var (pv 4)) ad_nil))) (ad_cons (ed_tup (ad_cons ed_str (ad_cons (ed_var (pv 5)) ad_nil))) ad_nil)))) (ed_sub (ed_var (pv 6)) ed_int) (fun _ _ => rfl)))))))))))
theorem ok_law_row (Y : Fx K mg) : FnC P w K mg base "_law_row" 3 ["_law_cell_here", "_law_base", "_law_sizes", "_law_many"] [] F_law_row := by
  obtain ⟨fd, FD⟩ := Y.c.def_ 11 (d := d_law_row) rfl
  exact FnC.of FD (Y.glo 6) (ok_law_row_fn FD Y) fun _ _ _ _ _ _ us hl => match us, hl with | [_, _, _, _], _ => rfl
theorem sc_law_spoilt : FnScope ["_law_rows", "_law_sizes", "_law_base", "_law_cell_here", "_law_at", "_law_way", "_law_strange", "_law_word_here", "_law_far", "_law_some", "_law_goal"] ["_law_rows", "_law_sizes", "_law_base", "_law_cell_here"] (defScope s_law_spoilt) := ⟨rfl, rfl, rfl, by decide +kernel, rfl, by decide +kernel, by decide +kernel⟩
theorem ok_law_spoilt_fn {f : Addr} {fd : FuncData} (FD : FunD K d_law_spoilt.name d_law_spoilt.qual d_law_spoilt.params d_law_spoilt.body d_law_spoilt.scope (He.DefD.dvs K d_law_spoilt) (He.DefD.kws K d_law_spoilt) f fd) (Y : Fx K mg) : FnOk P w K mg base CX0 3 f fd ["_law_rows", "_law_sizes", "_law_base", "_law_cell_here"] (spS K 4 F_law_spoilt) := by
  refine fn_ok FD sc_law_spoilt fun cdv A outer s H E hr => ?_
  exact (sds_cons (sd_if (td_eq hr (ed_var (pv 0)) (ed_lst ad_nil)) (sds_one (sd_ret (ed_var (pv 0)))) sds_nil)
  (sds_cons (sd_set (ps_set (i := 4) sc_law_spoilt.nd rfl (by first | exact .inl rfl | exact .inr rfl) (ED.pe (ed_callP (ok_law_part Y) rfl hr (by decide) (by rfl) dd0 (ad_cons (ed_var (pv 3)) (ad_cons ed_int (ad_cons (ed_prim (fun ha => pe_callB (x := "len") call_lenAll (by rfl) Y.tb.len boot_len ha) ok_len (ad_cons (ed_var (pv 0)) ad_nil)) ad_nil)))))))
  (sds_cons (sd_set (ps_set (i := 5) sc_law_spoilt.nd rfl (by first | exact .inl rfl | exact .inr rfl) (ED.pe (ed_callP (ok_law_part Y) rfl hr (by decide) (by rfl) dd0 (ad_cons (ed_var (pv 3)) (ad_cons ed_int (ad_cons ed_int ad_nil)))))))
  (sds_cons (sd_set (ps_set (i := 6) sc_law_spoilt.nd rfl (by first | exact .inl rfl | exact .inr rfl) (ED.pe (ed_lst (ad_cons (ed_callP (ok_law_name Y) rfl hr (by decide) (by rfl) dd0 (ad_cons (ed_var (pv 2)) (ad_cons (ed_add ed_int (ed_callP (ok_law_part Y) rfl hr (by decide) (by rfl) dd0 (ad_cons (ed_var (pv 3)) (ad_cons ed_int (ad_cons ed_int ad_nil))))) ad_nil))) (ad_cons (ed_callP (ok_law_name Y) rfl hr (by decide) (by rfl) dd0 (ad_cons (ed_var (pv 2)) (ad_cons (ed_callP (ok_law_part Y) rfl hr (by decide) (by rfl) dd0 (ad_cons (ed_var (pv 3)) (ad_cons ed_int (ad_cons ed_int ad_nil)))) ad_nil))) ad_nil))))))
  (sds_cons (sd_set (ps_set (i := 7) sc_law_spoilt.nd rfl (by first | exact .inl rfl | exact .inr rfl) (ED.pe (ed_ix hr (ed_var (pv 6)) (ed_callP (ok_law_part Y) rfl hr (by decide) (by rfl) dd0 (ad_cons (ed_var (pv 3)) (ad_cons ed_int (ad_cons ed_int ad_nil)))) (fun _ _ => rfl)))))
  (sds_cons (sd_set (ps_set (i := 8) sc_law_spoilt.nd rfl (by first | exact .inl rfl | exact .inr rfl) (ED.pe (ed_add (ed_prim (fun ha => pe_callB (x := "len") call_lenAll (by rfl) Y.tb.len boot_len ha) ok_len (ad_cons (ed_var (pv 0)) ad_nil)) (ed_callP (ok_law_part Y) rfl hr (by decide) (by rfl) dd0 (ad_cons (ed_var (pv 3)) (ad_cons ed_int (ad_cons ed_int ad_nil))))))))
  (sds_cons (sd_set (ps_set (i := 9) sc_law_spoilt.nd rfl (by first | exact .inl rfl | exact .inr rfl) (ED.pe (ed_lst (ad_cons (ed_tup (ad_cons ed_str (ad_cons ed_str (ad_cons (ed_var (pv 7)) ad_nil)))) (ad_cons (ed_tup (ad_cons ed_str (ad_cons (ed_var (pv 7)) (ad_cons ed_int ad_nil)))) (ad_cons (ed_tup (ad_cons ed_str (ad_cons ed_str (ad_cons (ed_var (pv 7)) (ad_cons ed_int ad_nil))))) (ad_cons (ed_tup (ad_cons ed_str (ad_cons (ed_var (pv 7)) (ad_cons ed_int (ad_cons ed_int ad_nil))))) ad_nil))))))))
  (sds_cons (sd_set (ps_set (i := 9) sc_law_spoilt.nd rfl (by first | exact .inl rfl | exact .inr rfl) (ED.pe (ed_add (ed_var (pv 9)) (ed_lst (ad_cons (ed_tup (ad_cons ed_str (ad_cons ed_int (ad_cons (ed_var (pv 8)) ad_nil)))) (ad_cons (ed_tup (ad_cons ed_str (ad_cons (ed_var (pv 8)) ad_nil))) ad_nil)))))))
  (sds_cons (sd_if (td_eq hr (ed_var (pv 5)) ed_int) (sds_cons (sd_set (ps_set (i := 10) sc_law_spoilt.nd rfl (by first | exact .inl rfl | exact .inr rfl) (ED.pe (ed_callP (ok_law_part Y) rfl hr (by decide) (by rfl) dd0 (ad_cons (ed_var (pv 3)) (ad_cons ed_int (ad_cons (ed_prim (fun ha => pe_callB (x := "len") call_lenAll (by rfl) Y.tb.len boot_len ha) ok_len (ad_cons (ed_var (pv 0)) ad_nil)) ad_nil)))))))
  (sds_one (sd_ret (ed_add (ed_sl (ed_var (pv 0)) od_none (od_some (ed_neg ed_int))) (ed_lst (ad_cons (ed_ix hr (ed_lst (ad_cons (ed_tup (ad_cons ed_str (ad_cons ed_int ad_nil))) (ad_cons (ed_tup (ad_cons ed_str (ad_cons ed_int (ad_cons (ed_var (pv 10)) ad_nil)))) (ad_cons (ed_tup (ad_cons ed_str (ad_cons (ed_var (pv 10)) ad_nil))) (ad_cons (ed_tup (ad_cons ed_str (ad_cons ed_str (ad_cons (ed_var (pv 10)) ad_nil)))) ad_nil))))) (ed_callP (ok_law_part Y) rfl hr (by decide) (by rfl) dd0 (ad_cons (ed_var (pv 3)) (ad_cons ed_int (ad_cons ed_int ad_nil)))) (fun _ _ => rfl)) ad_nil)))))) sds_nil)
  (sds_cons (sd_if (td_eq hr (ed_var (pv 5)) ed_int) (sds_one (sd_ret (ed_lst ad_nil))) sds_nil)
  (sds_one (sd_ret (ed_add (ed_add (ed_sl (ed_var (pv 0)) od_none (od_some (ed_var (pv 4)))) (ed_lst (ad_cons (ed_ix hr (ed_var (pv 9)) (ed_var (pv 5)) (fun _ _ => rfl)) ad_nil))) (ed_sl (ed_var (pv 0)) (od_some (ed_add (ed_var (pv 4)) ed_int)) od_none))))))))))))))
theorem ok_law_spoilt (Y : Fx K mg) : FnC P w K mg base "_law_spoilt" 3 ["_law_rows", "_law_sizes", "_law_base", "_law_cell_here"] [] F_law_spoilt := by
  obtain ⟨fd, FD⟩ := Y.c.def_ 12 (d := d_law_spoilt) rfl
  exact FnC.of FD (Y.glo 7) (ok_law_spoilt_fn FD Y) fun _ _ _ _ _ _ us hl => match us, hl with | [_, _, _, _], _ => rfl
theorem sc_law_word : FnScope ["_law_row_here"] ["_law_row_here"] (defScope s_law_word) := ⟨rfl, rfl, rfl, by decide +kernel, rfl, by decide +kernel, by decide +kernel⟩
theorem ok_law_word_fn {f : Addr} {fd : FuncData} (FD : FunD K d_law_word.name d_law_word.qual d_law_word.params d_law_word.body d_law_word.scope (He.DefD.dvs K d_law_word) (He.DefD.kws K d_law_word) f fd) (Y : Fx K mg) : FnOk P w K mg base CX0 1 f fd ["_law_row_here"] (spS K 1 F_law_word) := by
  refine fn_ok FD sc_law_word fun cdv A outer s H E hr => ?_
  exact (sds_cons (sd_if (TDW.td (tw_or (td_eq hr (ed_ix hr (ed_var (pv 0)) ed_int (fun _ _ => rfl)) ed_str) (tw_or1 (td_eq hr (ed_ix hr (ed_var (pv 0)) ed_int (fun _ _ => rfl)) ed_str)))) (sds_one (sd_ret (ed_ix hr (ed_var (pv 0)) ed_int (fun _ _ => rfl)))) sds_nil)
  (sds_one (sd_ret (ed_ix hr (ed_var (pv 0)) ed_int (fun _ _ => rfl)))))
theorem ok_law_word (Y : Fx K mg) : FnC P w K mg base "_law_word" 1 ["_law_row_here"] [] F_law_word := by
  obtain ⟨fd, FD⟩ := Y.c.def_ 13 (d := d_law_word) rfl
  exact FnC.of FD (Y.glo 8) (ok_law_word_fn FD Y) fun _ _ _ _ _ _ us hl => match us, hl with | [_], _ => rfl
theorem sc_law_due : FnScope ["_law_cells", "_law_shelves", "_law_rows", "_law_at", "_law_goals"] ["_law_cells", "_law_shelves", "_law_rows"] (defScope s_law_due) := ⟨rfl, rfl, rfl, by decide +kernel, rfl, by decide +kernel, by decide +kernel⟩
theorem ok_law_due_fn {f : Addr} {fd : FuncData} (FD : FunD K d_law_due.name d_law_due.qual d_law_due.params d_law_due.body d_law_due.scope (He.DefD.dvs K d_law_due) (He.DefD.kws K d_law_due) f fd) (Y : Fx K mg) : FnOk P w K mg base CX0 2 f fd ["_law_cells", "_law_shelves", "_law_rows"] (spS K 3 F_law_due) := by
  refine fn_ok FD sc_law_due fun cdv A outer s H E hr => ?_
  exact (sds_cons (sd_for (ps_for PassesOwn.never rfl (Dn.ID.pi (id_range1 (ad_cons (ed_prim (fun ha => pe_callB (x := "len") call_lenAll (by rfl) Y.tb.len boot_len ha) ok_len (ad_cons (ed_var (pv 2)) ad_nil)) ad_nil) (fun ha => pi_range1 (by rfl) Y.tb.range ha))) (GD.pg (gd_name (pg_name (i := 3) sc_law_due.nd rfl (by first | exact .inl rfl | exact .inr rfl)))) (SDs.ps (sds_cons (sd_if (TDW.td (tw_and (td_in hr (ed_ix hr (ed_ix hr (ed_var (pv 2)) (ed_var (pv 3)) (fun _ _ => rfl)) ed_int (fun _ _ => rfl)) (ed_tup (ad_cons ed_str (ad_cons ed_str ad_nil))) rfl) (tw_and1 (td_notin hr (ed_callP (ok_law_word Y) rfl hr (by decide) (by rfl) dd0 (ad_cons (ed_ix hr (ed_var (pv 2)) (ed_var (pv 3)) (fun _ _ => rfl)) ad_nil)) (ed_var (pv 0)) rfl)))) (sds_one (sd_ret (ed_lst (ad_cons ed_str (ad_cons (ed_callP (ok_law_word Y) rfl hr (by decide) (by rfl) dd0 (ad_cons (ed_ix hr (ed_var (pv 2)) (ed_var (pv 3)) (fun _ _ => rfl)) ad_nil)) (ad_cons (ed_var (pv 3)) ad_nil)))))) sds_nil)
  (sds_one (sd_if (TDW.td (tw_and (td_in hr (ed_ix hr (ed_ix hr (ed_var (pv 2)) (ed_var (pv 3)) (fun _ _ => rfl)) ed_int (fun _ _ => rfl)) (ed_tup (ad_cons ed_str (ad_cons ed_str ad_nil))) rfl) (tw_and1 (td_notin hr (ed_callP (ok_law_word Y) rfl hr (by decide) (by rfl) dd0 (ad_cons (ed_ix hr (ed_var (pv 2)) (ed_var (pv 3)) (fun _ _ => rfl)) ad_nil)) (ed_var (pv 1)) rfl)))) (sds_one (sd_ret (ed_lst (ad_cons ed_str (ad_cons (ed_callP (ok_law_word Y) rfl hr (by decide) (by rfl) dd0 (ad_cons (ed_ix hr (ed_var (pv 2)) (ed_var (pv 3)) (fun _ _ => rfl)) ad_nil)) (ad_cons (ed_var (pv 3)) ad_nil)))))) sds_nil))))))
  (sds_cons (sd_for (ps_for PassesOwn.never rfl (Dn.ID.pi (id_range1 (ad_cons (ed_prim (fun ha => pe_callB (x := "len") call_lenAll (by rfl) Y.tb.len boot_len ha) ok_len (ad_cons (ed_var (pv 2)) ad_nil)) ad_nil) (fun ha => pi_range1 (by rfl) Y.tb.range ha))) (GD.pg (gd_name (pg_name (i := 3) sc_law_due.nd rfl (by first | exact .inl rfl | exact .inr rfl)))) (SDs.ps (sds_cons (sd_set (ps_set (i := 4) sc_law_due.nd rfl (by first | exact .inl rfl | exact .inr rfl) (ED.pe (ed_lstM (ad_cons (ed_add (ed_var (pv 3)) ed_int) ad_nil)))))
  (sds_cons (sd_if (td_eq hr (ed_ix hr (ed_ix hr (ed_var (pv 2)) (ed_var (pv 3)) (fun _ _ => rfl)) ed_int (fun _ _ => rfl)) ed_str) (sds_one (sd_expr (ed_mt ok_append (ed_var (pv 4)) (ad_cons (ed_ix hr (ed_ix hr (ed_var (pv 2)) (ed_var (pv 3)) (fun _ _ => rfl)) ed_int (fun _ _ => rfl)) ad_nil) (fun ho ha => pe_bm PySem.F.plainAttrs_list PySem.F.slot_list_append PySem.F.type_list_append mt_append ho ha)))) sds_nil)
  (sds_cons (sd_if (td_eq hr (ed_ix hr (ed_ix hr (ed_var (pv 2)) (ed_var (pv 3)) (fun _ _ => rfl)) ed_int (fun _ _ => rfl)) ed_str) (sds_one (sd_set (ps_set (i := 4) sc_law_due.nd rfl (by first | exact .inl rfl | exact .inr rfl) (ED.pe (ed_lst (ad_cons (ed_ix hr (ed_ix hr (ed_var (pv 2)) (ed_var (pv 3)) (fun _ _ => rfl)) ed_int (fun _ _ => rfl)) ad_nil)))))) sds_nil)
  (sds_one (sd_if (TDW.td (tw_and (td_ne hr (ed_ix hr (ed_ix hr (ed_var (pv 2)) (ed_var (pv 3)) (fun _ _ => rfl)) ed_int (fun _ _ => rfl)) ed_str) (tw_and1 (td_ge (ed_prim (fun ha => pe_callB (x := "max") (call_maxAll rfl) (by rfl) Y.tb.max boot_max ha) ok_max (ad_cons (ed_var (pv 4)) ad_nil)) (ed_prim (fun ha => pe_callB (x := "len") call_lenAll (by rfl) Y.tb.len boot_len ha) ok_len (ad_cons (ed_var (pv 2)) ad_nil)))))) (sds_one (sd_ret (ed_lst (ad_cons ed_str (ad_cons (ed_var (pv 3)) ad_nil))))) sds_nil))))))))
  (sds_cons (sd_if (td_eq hr (ed_var (pv 2)) (ed_lst ad_nil)) (sds_one (sd_ret (ed_lst (ad_cons ed_str (ad_cons ed_int ad_nil))))) sds_nil)
  (sds_one (sd_ret (ed_lst (ad_cons ed_str ad_nil)))))))
theorem ok_law_due (Y : Fx K mg) : FnC P w K mg base "_law_due" 2 ["_law_cells", "_law_shelves", "_law_rows"] [] F_law_due := by
  obtain ⟨fd, FD⟩ := Y.c.def_ 14 (d := d_law_due) rfl
  exact FnC.of FD (Y.glo 9) (ok_law_due_fn FD Y) fun _ _ _ _ _ _ us hl => match us, hl with | [_, _, _], _ => rfl
theorem sc_law_whole : FnScope ["_law_found"] ["_law_found"] (defScope s_law_whole) := ⟨rfl, rfl, rfl, by decide +kernel, rfl, by decide +kernel, by decide +kernel⟩
theorem ok_law_whole_fn {f : Addr} {fd : FuncData} (FD : FunD K d_law_whole.name d_law_whole.qual d_law_whole.params d_law_whole.body d_law_whole.scope (He.DefD.dvs K d_law_whole) (He.DefD.kws K d_law_whole) f fd) (Y : Fx K mg) : FnOk P w K mg base CX0 1 f fd ["_law_found"] (spS K 1 F_law_whole) := by
  refine fn_ok FD sc_law_whole fun cdv A outer s H E hr => ?_
  exact (sds_one (sd_ret (ed_and (e_isi (T7 := .int) Y.tb Y.tb.int (by decide) (by rfl) (by rfl) boot_int (ed_var (pv 0))) (ed_one (ed_not (e_isi (T7 := .bool) Y.tb Y.tb.bool (by decide) (by rfl) (by rfl) boot_bool (ed_var (pv 0))))))))
theorem ok_law_whole (Y : Fx K mg) : FnC P w K mg base "_law_whole" 1 ["_law_found"] [] F_law_whole := by
  obtain ⟨fd, FD⟩ := Y.c.def_ 15 (d := d_law_whole) rfl
  exact FnC.of FD (Y.glo 10) (ok_law_whole_fn FD Y) fun _ _ _ _ _ _ us hl => match us, hl with | [_], _ => rfl
theorem sc_law_told : FnScope ["_law_program", "_law_caught", "_law_found", "e"] ["_law_program"] (defScope s_law_told) := ⟨rfl, rfl, rfl, by decide +kernel, rfl, by decide +kernel, by decide +kernel⟩
theorem ok_law_told_fn {f : Addr} {fd : FuncData} (FD : FunD K d_law_told.name d_law_told.qual d_law_told.params d_law_told.body d_law_told.scope (He.DefD.dvs K d_law_told) (He.DefD.kws K d_law_told) f fd) (Y : Fx K mg) : FnOk P w K mg base CX0 4 f fd ["_law_program"] (spS K 1 F_law_told) := by
  refine fn_ok FD sc_law_told fun cdv A outer s H E hr => ?_
  exact (sds_cons (sd_set (ps_set (i := 1) sc_law_told.nd rfl (by first | exact .inl rfl | exact .inr rfl) (ED.pe ed_non)))
  (sds_cons (sd_set (ps_set (i := 2) sc_law_told.nd rfl (by first | exact .inl rfl | exact .inr rfl) (ED.pe ed_non)))
  (sds_cons (sd_try rfl rfl rfl sc_law_told.nd rfl rfl (by rfl) (Y.glo 14) Y.xc_DimError (fun W pn xe tk pw => (sxs_one (sx_set (fun h => ps_set (i := 2) sc_law_told.nd rfl (by first | exact .inl rfl | exact .inr rfl) h) (ex_call (ok_look Y) rfl hr (by decide) tk (by rfl) (ad_cons (ed_var (pv 0)) ad_nil))))) (fun a pn => (sds_one (sd_set (ps_set (i := 1) sc_law_told.nd rfl (by first | exact .inl rfl | exact .inr rfl) (ED.pe (ed_var (pv 3))))))))
  (sds_cons (sd_if (td_is (ed_var (pv 1)) ed_non) (sds_one (sd_ret (ed_ix hr (ed_lst (ad_cons (ed_lst (ad_cons ed_str ad_nil)) (ad_cons (ed_lst (ad_cons ed_str ad_nil)) ad_nil))) (ed_prim (fun ha => pe_callTy (x := "int") call_intAll (by rfl) Y.tb.int boot_int ha) ok_int (ad_cons (ed_isB (ed_var (pv 2)) ed_bl) ad_nil)) (fun _ _ => rfl)))) sds_nil)
  (sds_cons (sd_if (TDW.td (tw_or (td_not (td_val (ed_isXV Y.xt Y.xi Y.tb (by rfl) (by rfl) (ed_var (pv 1))))) (tw_or1 (td_val (ed_isXT (Ds := ["BadLine", "Twice", "NoLabel"]) Y.xt Y.xi Y.tb (by rfl) (pa_cons (pe_glob (v := .ref (He.ga K "BadLine")) (by rfl) (Y.glo 15) rfl) (pa_cons (pe_glob (v := .ref (He.ga K "Twice")) (by rfl) (Y.glo 16) rfl) (pa_cons (pe_glob (v := .ref (He.ga K "NoLabel")) (by rfl) (Y.glo 17) rfl) pa_nil))) (ed_var (pv 1))))))) (sds_one (sd_ret (ed_lst (ad_cons ed_str ad_nil)))) sds_nil)
  (sds_cons (sd_if (TDW.td (tw_or (td_eq hr (ed_isX Y.xt Y.xi Y.tb (Y.glo 18) (by decide) (by rfl) (by rfl) (ed_var (pv 1))) (ed_isX Y.xt Y.xi Y.tb (Y.glo 19) (by decide) (by rfl) (by rfl) (ed_var (pv 1)))) (tw_or1 (td_not (td_val (ed_callP (ok_law_whole Y) rfl hr (by decide) (by rfl) dd0 (ad_cons (ed_xat Y.xt (ed_var (pv 1))) ad_nil))))))) (sds_one (sd_ret (ed_lst (ad_cons ed_str ad_nil)))) sds_nil)
  (sds_cons (sd_if (td_val (ed_isX Y.xt Y.xi Y.tb (Y.glo 19) (by decide) (by rfl) (by rfl) (ed_var (pv 1)))) (sds_one (sd_ret (ed_lst (ad_cons ed_str (ad_cons (ed_xat Y.xt (ed_var (pv 1))) ad_nil))))) sds_nil)
  (sds_one (sd_ret (ed_lst (ad_cons ed_str (ad_cons (ed_xat Y.xt (ed_var (pv 1))) (ad_cons (ed_xat Y.xt (ed_var (pv 1))) ad_nil)))))))))))))
theorem ok_law_told (Y : Fx K mg) : FnC P w K mg base "_law_told" 4 ["_law_program"] [] F_law_told := by
  obtain ⟨fd, FD⟩ := Y.c.def_ 16 (d := d_law_told) rfl
  exact FnC.of FD (Y.glo 11) (ok_law_told_fn FD Y) fun _ _ _ _ _ _ us hl => match us, hl with | [_], _ => rfl
theorem sc_law_made : FnScope ["_law_word_here", "_law_number", "_law_one"] ["_law_word_here", "_law_number"] (defScope s_law_made) := ⟨rfl, rfl, rfl, by decide +kernel, rfl, by decide +kernel, by decide +kernel⟩
theorem ok_law_made_fn {f : Addr} {fd : FuncData} (FD : FunD K d_law_made.name d_law_made.qual d_law_made.params d_law_made.body d_law_made.scope (He.DefD.dvs K d_law_made) (He.DefD.kws K d_law_made) f fd) (Y : Fx K mg) : FnOk P w K mg base CX0 3 f fd ["_law_word_here", "_law_number"] (spS K 2 F_law_made) := by
  refine fn_ok FD sc_law_made fun cdv A outer s H E hr => ?_
  exact (sds_cons (sd_set (ps_set (i := 2) sc_law_made.nd rfl (by first | exact .inl rfl | exact .inr rfl) (ED.pe (ed_exc (ok_exc_Unknown Y) hr (by decide) (by rfl) (ad_cons (ed_var (pv 0)) (ad_cons (ed_var (pv 1)) ad_nil))))))
  (sds_cons (sd_if (TDW.td (tw_or (td_ne hr (ed_xat Y.xt (ed_var (pv 2))) (ed_var (pv 0))) (tw_or (td_ne hr (ed_xat Y.xt (ed_var (pv 2))) (ed_var (pv 1))) (tw_or (td_ne hr (ed_xat Y.xt (ed_exc (ok_exc_Falls Y) hr (by decide) (by rfl) (ad_cons (ed_var (pv 1)) ad_nil))) (ed_var (pv 1))) (tw_or1 (td_ne hr (ed_xat Y.xt (ed_exc (ok_exc_BadLine Y) hr (by decide) (by rfl) (ad_cons (ed_var (pv 1)) ad_nil))) (ed_var (pv 1)))))))) (sds_one (sd_ret ed_bl)) sds_nil)
  (sds_one (sd_ret (ed_and (ed_eq hr (ed_xat Y.xt (ed_exc (ok_exc_Twice Y) hr (by decide) (by rfl) (ad_cons (ed_var (pv 0)) ad_nil))) (ed_var (pv 0))) (ed_and (ed_eq hr (ed_xat Y.xt (ed_exc (ok_exc_NoLabel Y) hr (by decide) (by rfl) (ad_cons (ed_var (pv 0)) ad_nil))) (ed_var (pv 0))) (ed_one (ed_isX Y.xt Y.xi Y.tb (Y.glo 14) (by decide) (by rfl) (by rfl) (ed_var (pv 2))))))))))
theorem ok_law_made (Y : Fx K mg) : FnC P w K mg base "_law_made" 3 ["_law_word_here", "_law_number"] [] F_law_made := by
  obtain ⟨fd, FD⟩ := Y.c.def_ 17 (d := d_law_made) rfl
  exact FnC.of FD (Y.glo 12) (ok_law_made_fn FD Y) fun _ _ _ _ _ _ us hl => match us, hl with | [_, _], _ => rfl
theorem sc_law : FnScope ["_law_script", "_law_cell_here", "_law_base", "_law_sizes", "_law_many", "_law_cells", "_law_shelves", "_law_rows", "_law_k", "_law_told_here", "_law_kept", "_law_program", "_law_due_here", "_law_name_here"] ["_law_script"] (defScope s_law) := ⟨rfl, rfl, rfl, by decide +kernel, rfl, by decide +kernel, by decide +kernel⟩
theorem ok_law_fn {f : Addr} {fd : FuncData} (FD : FunD K d_law.name d_law.qual d_law.params d_law.body d_law.scope (He.DefD.dvs K d_law) (He.DefD.kws K d_law) f fd) (Y : Fx K mg) : FnOk P w K mg base CX0 5 f fd ["_law_script"] (spS K 1 F_law) := by
  refine fn_ok FD sc_law fun cdv A outer s H E hr => ?_
  exact (sds_cons (sd_set (ps_set (i := 1) sc_law.nd rfl (by first | exact .inl rfl | exact .inr rfl) (ED.pe (ed_callP (ok_law_cell Y) rfl hr (by decide) (by rfl) dd0 (ad_cons (ed_var (pv 0)) (ad_cons ed_int ad_nil))))))
  (sds_cons (sd_set (ps_set (i := 2) sc_law.nd rfl (by first | exact .inl rfl | exact .inr rfl) (ED.pe (ed_callP (ok_law_cell Y) rfl hr (by decide) (by rfl) dd0 (ad_cons (ed_var (pv 0)) (ad_cons ed_int ad_nil))))))
  (sds_cons (sd_set (ps_set (i := 3) sc_law.nd rfl (by first | exact .inl rfl | exact .inr rfl) (ED.pe (ed_lst (ad_cons (ed_callP (ok_law_part Y) rfl hr (by decide) (by rfl) dd0 (ad_cons (ed_var (pv 1)) (ad_cons ed_int (ad_cons ed_int ad_nil)))) (ad_cons (ed_callP (ok_law_part Y) rfl hr (by decide) (by rfl) dd0 (ad_cons (ed_var (pv 1)) (ad_cons ed_int (ad_cons ed_int ad_nil)))) ad_nil))))))
  (sds_cons (sd_set (ps_set (i := 4) sc_law.nd rfl (by first | exact .inl rfl | exact .inr rfl) (ED.pe (ed_add ed_int (ed_callP (ok_law_part Y) rfl hr (by decide) (by rfl) dd0 (ad_cons (ed_var (pv 1)) (ad_cons ed_int (ad_cons ed_int ad_nil))))))))
  (sds_cons (sd_if (td_eq hr (ed_callP (ok_law_part Y) rfl hr (by decide) (by rfl) dd0 (ad_cons (ed_var (pv 1)) (ad_cons ed_int (ad_cons ed_int ad_nil)))) ed_int) (sds_one (sd_set (ps_set (i := 4) sc_law.nd rfl (by first | exact .inl rfl | exact .inr rfl) (ED.pe (ed_add ed_int (ed_callP (ok_law_part Y) rfl hr (by decide) (by rfl) dd0 (ad_cons (ed_var (pv 1)) (ad_cons ed_int (ad_cons ed_int ad_nil))))))))) sds_nil)
  (sds_cons (sd_setLc (i := 5) (ps_setLc (own := [("_law_k", 8)]) rfl sc_law.nd rfl rfl rfl (Dn.ID.pi (id_range1 (ad_cons (ed_ix hr (ed_var (pv 3)) ed_int (fun _ _ => rfl)) ad_nil) (fun ha => pi_range1 (by rfl) Y.tb.range ha))) (blkOk_by (by rfl)) (fun _ _ _ _ _ => (pg_name (i := 8) sc_law.nd rfl (by first | exact .inl rfl | exact .inr rfl))) (fun _ _ _ _ _ => pts_nil) (fun _ _ _ _ _ => (ED.pe (ed_callP (ok_law_name Y) rfl hr (by decide) (by rfl) dd0 (ad_cons (ed_var (pv 2)) (ad_cons (ed_var (pv 8)) ad_nil)))))) (gw_name (by decide)) yes_of)
  (sds_cons (sd_setLc (i := 6) (ps_setLc (own := [("_law_k", 8)]) rfl sc_law.nd rfl rfl rfl (Dn.ID.pi (id_range1 (ad_cons (ed_ix hr (ed_var (pv 3)) ed_int (fun _ _ => rfl)) ad_nil) (fun ha => pi_range1 (by rfl) Y.tb.range ha))) (blkOk_by (by rfl)) (fun _ _ _ _ _ => (pg_name (i := 8) sc_law.nd rfl (by first | exact .inl rfl | exact .inr rfl))) (fun _ _ _ _ _ => pts_nil) (fun _ _ _ _ _ => (ED.pe (ed_callP (ok_law_name Y) rfl hr (by decide) (by rfl) dd0 (ad_cons (ed_var (pv 2)) (ad_cons (ed_add ed_int (ed_var (pv 8))) ad_nil)))))) (gw_name (by decide)) yes_of)
  (sds_cons (sd_setLcM (i := 7) (ps_setLc (own := [("_law_k", 8)]) rfl sc_law.nd rfl rfl rfl (Dn.ID.pi (id_range1 (ad_cons (ed_var (pv 4)) ad_nil) (fun ha => pi_range1 (by rfl) Y.tb.range ha))) (blkOk_by (by rfl)) (fun _ _ _ _ _ => (pg_name (i := 8) sc_law.nd rfl (by first | exact .inl rfl | exact .inr rfl))) (fun _ _ _ _ _ => pts_nil) (fun _ _ _ _ _ => (ED.pe (ed_callP (ok_law_row Y) rfl hr (by decide) (by rfl) dd0 (ad_cons (ed_callP (ok_law_cell Y) rfl hr (by decide) (by rfl) dd0 (ad_cons (ed_var (pv 0)) (ad_cons (ed_add ed_int (ed_var (pv 8))) ad_nil))) (ad_cons (ed_var (pv 2)) (ad_cons (ed_var (pv 3)) (ad_cons (ed_var (pv 4)) ad_nil)))))))) (gw_name (by decide)) yes_of)
  (sds_cons (sd_expr (ed_mt ok_append (ed_var (pv 7)) (ad_cons (ed_ix hr (ed_lst (ad_cons (ed_tup (ad_cons ed_str (ad_cons ed_int ad_nil))) (ad_cons (ed_tup (ad_cons ed_str (ad_cons (ed_callP (ok_law_part Y) rfl hr (by decide) (by rfl) dd0 (ad_cons (ed_var (pv 1)) (ad_cons ed_int (ad_cons (ed_add (ed_var (pv 4)) ed_int) ad_nil)))) ad_nil))) (ad_cons (ed_tup (ad_cons ed_str (ad_cons ed_int ad_nil))) ad_nil)))) (ed_callP (ok_law_part Y) rfl hr (by decide) (by rfl) dd0 (ad_cons (ed_var (pv 1)) (ad_cons ed_int (ad_cons ed_int ad_nil)))) (fun _ _ => rfl)) ad_nil) (fun ho ha => pe_bm PySem.F.plainAttrs_list PySem.F.slot_list_append PySem.F.type_list_append mt_append ho ha)))
  (sds_cons (sd_for (ps_for PassesOwn.never rfl (Dn.ID.pi (id_range1 (ad_cons (ed_callP (ok_law_part Y) rfl hr (by decide) (by rfl) dd0 (ad_cons (ed_var (pv 1)) (ad_cons ed_int (ad_cons ed_int ad_nil)))) ad_nil) (fun ha => pi_range1 (by rfl) Y.tb.range ha))) (GD.pg (gd_name (pg_name (i := 8) sc_law.nd rfl (by first | exact .inl rfl | exact .inr rfl)))) (SDs.ps (sds_one (sd_set (ps_set (i := 7) sc_law.nd rfl (by first | exact .inl rfl | exact .inr rfl) (ED.pe (ed_callP (ok_law_spoilt Y) rfl hr (by decide) (by rfl) dd0 (ad_cons (ed_var (pv 7)) (ad_cons (ed_var (pv 3)) (ad_cons (ed_var (pv 2)) (ad_cons (ed_callP (ok_law_cell Y) rfl hr (by decide) (by rfl) dd0 (ad_cons (ed_var (pv 0)) (ad_cons (ed_add ed_int (ed_var (pv 8))) ad_nil))) ad_nil))))))))))))
  (sds_cons (sd_setLc (i := 9) (ps_setLc (own := [("_law_name_here", 13)]) rfl sc_law.nd rfl rfl rfl (Dn.ID.pi (id_seq (ed_var (pv 5)))) (blkOk_by (by rfl)) (fun _ _ _ _ _ => (pg_name (i := 13) sc_law.nd rfl (by first | exact .inl rfl | exact .inr rfl))) (fun _ _ _ _ _ => pts_nil) (fun _ _ _ _ _ => (ED.pe (ed_tup (ad_cons (ed_var (pv 13)) (ad_cons ed_int (ad_cons (ed_eq hr (ed_mod (ed_prim (fun ha => pe_callB (x := "len") call_lenAll (by rfl) Y.tb.len boot_len ha) ok_len (ad_cons (ed_var (pv 13)) ad_nil)) ed_int) ed_int) ad_nil))))))) (gw_name (by decide)) yes_of)
  (sds_cons (sd_setLc (i := 10) (ps_setLc (own := [("_law_k", 8), ("_law_name_here", 13)]) rfl sc_law.nd rfl rfl rfl (Dn.ID.pi (id_enum2 (ad_cons (ed_var (pv 6)) ad_nil) (fun ha => pi_enum (by rfl) Y.tb.enumerate ha) (fun ha => pi_enumT (by rfl) Y.tb.enumerate ha))) (blkOk_by (by rfl)) (fun _ _ _ _ _ => (pg_tup rfl (pgs_cons (pg_name (i := 8) sc_law.nd rfl (by first | exact .inl rfl | exact .inr rfl)) (pgs_cons (pg_name (i := 13) sc_law.nd rfl (by first | exact .inl rfl | exact .inr rfl)) pgs_nil)))) (fun _ _ _ _ _ => pts_nil) (fun _ _ _ _ _ => (ED.pe (ed_tup (ad_cons (ed_var (pv 13)) (ad_cons (ed_add ed_int (ed_mod (ed_var (pv 8)) ed_int)) (ad_cons (ed_eq hr (ed_mod (ed_var (pv 8)) ed_int) ed_int) ad_nil))))))) (gw_tup (gws_cons (gw_name (by decide)) (gws_cons (gw_name (by decide)) gws_nil))) yes_of)
  (sds_cons (sd_set (ps_set (i := 11) sc_law.nd rfl (by first | exact .inl rfl | exact .inr rfl) (ED.pe (ed_tup (ad_cons (ed_prim (fun ha => pe_callTy (x := "tuple") call_tupAll (by rfl) Y.tb.tuple boot_tuple ha) ok_tuple (ad_cons (ed_var (pv 9)) ad_nil)) (ad_cons (ed_prim (fun ha => pe_callTy (x := "tuple") call_tupAll (by rfl) Y.tb.tuple boot_tuple ha) ok_tuple (ad_cons (ed_var (pv 10)) ad_nil)) (ad_cons (ed_prim (fun ha => pe_callTy (x := "tuple") call_tupAll (by rfl) Y.tb.tuple boot_tuple ha) ok_tuple (ad_cons (ed_var (pv 7)) ad_nil)) ad_nil)))))))
  (sds_cons (sd_set (ps_set (i := 12) sc_law.nd rfl (by first | exact .inl rfl | exact .inr rfl) (ED.pe (ed_callP (ok_law_due Y) rfl hr (by decide) (by rfl) dd0 (ad_cons (ed_var (pv 5)) (ad_cons (ed_var (pv 6)) (ad_cons (ed_var (pv 7)) ad_nil)))))))
  (sds_cons (sd_if (td_not (td_val (ed_callP (ok_law_made Y) rfl hr (by decide) (by rfl) dd0 (ad_cons (ed_callP (ok_law_name Y) rfl hr (by decide) (by rfl) dd0 (ad_cons (ed_var (pv 2)) (ad_cons ed_int ad_nil))) (ad_cons (ed_callP (ok_law_part Y) rfl hr (by decide) (by rfl) dd0 (ad_cons (ed_var (pv 1)) (ad_cons ed_int (ad_cons ed_int ad_nil)))) ad_nil))))) (sds_one (sd_ret ed_bl)) sds_nil)
  (sds_cons (sd_if (TDW.td (tw_or (td_ne hr (ed_callP (ok_law_told Y) rfl hr (by decide) (by rfl) dd0 (ad_cons (ed_var (pv 11)) ad_nil)) (ed_var (pv 12))) (tw_or1 (td_isnotB (ed_callX (ok_look Y) rfl hr (by decide) (by rfl) (ad_cons (ed_tup (ad_cons (ed_tup ad_nil) (ad_cons (ed_tup ad_nil) (ad_cons (ed_tup (ad_cons (ed_tup (ad_cons ed_str (ad_cons ed_int ad_nil))) ad_nil)) ad_nil)))) ad_nil)) ed_bl)))) (sds_one (sd_ret ed_bl)) sds_nil)
  (sds_one (sd_ret (ed_eq hr (ed_callP (ok_law_told Y) rfl hr (by decide) (by rfl) dd0 (ad_cons (ed_var (pv 11)) ad_nil)) (ed_var (pv 12)))))))))))))))))))))
end
end Lk14

namespace Lk14
open PySem PySem.Spec PyProof.Rows L2 Dn
def w_ps : List Int := [10007, 10009, 10037, 10039, 10061, 10067, 10069, 10079]
theorem w_ps_pos : ∀ r, r < 8 → 0 < w_ps.getD r 0 := by decide
def w_pt (c : Int) (j : Nat) (m : Int) : Int := (c * 48271 + 7919 * (j : Int)) % w_ps.getD (j % 8) 0 % m
theorem w_pt_in {c : Int} {j : Nat} {m : Int} (hm : 0 < m) : 0 ≤ w_pt c j m ∧ w_pt c j m < m := ⟨Int.emod_nonneg _ (by omega), Int.emod_lt_of_pos _ hm⟩
theorem w_part (c : Int) (j : Nat) (m : Int) (hm : 0 < m) : pureOf F_law_part [.int c, .int (j : Nat), .int m] = some (.int (w_pt c j m)) := by
  let N (x3 : Option DV) : List (Option DV) := [some (.int c), some (.int (j : Nat)), some (.int m), x3]
  let P : DV := .tup (w_ps.map .int)
  have s3 : dSet 3 (dPrim pTup (aCons (dC (.int 10007)) (aCons (dC (.int 10009)) (aCons (dC (.int 10037)) (aCons (dC (.int 10039)) (aCons (dC (.int 10061)) (aCons (dC (.int 10067)) (aCons (dC (.int 10069)) (aCons (dC (.int 10079)) aNil))))))))) (N none) ([] : Sto) = some (.nx (N (some P)) []) := rfl
  have hr : j % 8 < 8 := Nat.mod_lt _ (by decide)
  have ix : dBin pIx (dVar 3) (dBin pMod (dVar 1) (dC (.int 8))) (N (some P)) ([] : Sto) = some (.int (w_ps.getD (j % 8) 0), []) := by
    have e : dBin pMod (dVar 1) (dC (.int 8)) (N (some P)) ([] : Sto) = some (.int ((j % 8 : Nat) : Int), []) := by
      rw [show ((j % 8 : Nat) : Int) = (j : Int) % 8 by omega]
      exact modI_of (a := (j : Nat)) (b := 8) rfl rfl (by decide)
    refine bin_of (x := P) rfl e (ix_tup (atD_nat ?_))
    rw [List.getElem?_map, List.getD_eq_getElem?_getD, List.getElem?_eq_getElem (show j % 8 < w_ps.length from hr)]; rfl
  have ad : dBin pAdd (dBin pMul (dVar 0) (dC (.int 48271))) (dBin pMul (dC (.int 7919)) (dVar 1)) (N (some P)) ([] : Sto) = some (.int (c * 48271 + 7919 * (j : Int)), []) :=
    addI_of (bin_of (x := .int c) (y := .int 48271) rfl rfl (v_mulI (by decide))) (bin_of (x := .int 7919) (y := .int (j : Nat)) rfl rfl (v_mulIl (by decide)))
  exact pureOf_of (S' := []) (run_rt rfl ((seq_nx s3).trans (ret_of (modI_of (modI_of ad ix (w_ps_pos _ hr)) (b := m) rfl hm)))) rfl
theorem w_part_of {f g e : DE} {ρ : List (Option DV)} {S S1 S2 S3 : Sto} {c m : Int} {j : Nat} (h1 : f ρ S = some (.int c, S1)) (h2 : g ρ S1 = some (.int (j : Nat), S2)) (h3 : e ρ S2 = some (.int m, S3)) (hm : 0 < m) : dPrim (cP (pureOf F_law_part) []) (aCons f (aCons g (aCons e aNil))) ρ S = some (.int (w_pt c j m), S3) :=
  callPP (args3 h1 h2 h3) rfl (w_part c j m hm)
theorem w_cell (k : LK) (ns : List Int) (i : Nat) (hi : i < 100) : ∃ x : Int, pureOf F_law_cell [.lst k (ns.map .int), .int (i : Nat)] = some (.int x) := by
  let Sc : DV := .lst k (ns.map .int)
  let N (x2 : Option DV) : List (Option DV) := [some Sc, some (.int (i : Nat)), x2]
  have ln : ∀ {x2}, dPrim pLen (aCons (dVar 0) aNil) (N x2) ([] : Sto) = some (.int (ns.length : Nat), []) := fun {x2} => by
    have := lenL_of (f := dVar 0) (ρ := N x2) (S := []) (k := k) (xs := ns.map .int) rfl
    rw [List.length_map] at this
    exact this
  have at_ : ∀ {j : Nat} {x2 : Option DV} {e : DE}, j < ns.length → e (N x2) ([] : Sto) = some (.int (j : Nat), []) → dBin pIx (dVar 0) e (N x2) ([] : Sto) = some (.int (ns.getD j 0), []) := fun {j x2 e} hj he => by
    refine bin_of (x := Sc) rfl he (ix_seq (atD_nat ?_))
    rw [List.getElem?_map, List.getD_eq_getElem?_getD, List.getElem?_eq_getElem hj]; rfl
  have c1 : dBin pLt (dVar 1) (dPrim pLen (aCons (dVar 0) aNil)) (N none) ([] : Sto) = some (.bl (decide ((i : Int) < ns.length)), []) := bin_of (x := .int (i : Nat)) rfl ln Dn.v_lt
  by_cases q : (i : Int) < ns.length
  · rw [decide_eq_true q] at c1
    exact ⟨_, pureOf_of (S' := []) (run_rt rfl (seq_rt ((ifS_t c1).trans (ret_of (at_ (j := i) (by omega) rfl))))) rfl⟩
  · rw [decide_eq_false q] at c1
    have s1 : dIfS (dBin pLt (dVar 1) (dPrim pLen (aCons (dVar 0) aNil))) (dRet (dBin pIx (dVar 0) (dVar 1))) dNext (N none) ([] : Sto) = some (.nx (N none) []) := (ifS_f c1).trans rfl
    have s2 : dSet 2 (dC (.int 7)) (N none) ([] : Sto) = some (.nx (N (some (.int 7))) []) := rfl
    have s3 : ∃ z : Int, -1000000 < z ∧ z < 1000000 ∧ dIfS (dBin pGt (dPrim pLen (aCons (dVar 0) aNil)) (dC (.int 0))) (dSet 2 (dBin pMod (dBin pIx (dVar 0) (dBin pMod (dVar 1) (dPrim pLen (aCons (dVar 0) aNil)))) (dC (.int 999983)))) dNext (N (some (.int 7))) ([] : Sto) = some (.nx (N (some (.int z))) []) := by
      have c2 : dBin pGt (dPrim pLen (aCons (dVar 0) aNil)) (dC (.int 0)) (N (some (.int 7))) ([] : Sto) = some (.bl (decide ((0 : Int) < ns.length)), []) := bin_of ln (y := .int 0) rfl Dn.v_gt
      by_cases p : (0 : Int) < ns.length
      · rw [decide_eq_true p] at c2
        have m1 : dBin pMod (dVar 1) (dPrim pLen (aCons (dVar 0) aNil)) (N (some (.int 7))) ([] : Sto) = some (.int ((i % ns.length : Nat) : Int), []) := by
          rw [show ((i % ns.length : Nat) : Int) = (i : Int) % (ns.length : Int) from Int.natCast_emod i ns.length]
          exact modI_of (a := (i : Nat)) rfl ln p
        refine ⟨ns.getD (i % ns.length) 0 % 999983, by have := Int.emod_nonneg (ns.getD (i % ns.length) 0) (show (999983 : Int) ≠ 0 by decide); omega, by have := Int.emod_lt_of_pos (ns.getD (i % ns.length) 0) (show (0 : Int) < 999983 by decide); omega, (ifS_t c2).trans (set_of (modI_of (at_ (Nat.mod_lt _ (by omega)) m1) (b := 999983) rfl (by decide)))⟩
      · rw [decide_eq_false p] at c2
        exact ⟨7, by decide, by decide, (ifS_f c2).trans rfl⟩
    obtain ⟨z, z0, z1, s3⟩ := s3
    let ρ := N (some (.int z))
    have t1 : dBin pAdd (dBin pAdd (dVar 2) (dBin pMul (dC (.int 613)) (dVar 1))) (dC (.int 29)) ρ ([] : Sto) = some (.int (z + 613 * (i : Int) + 29), []) := addI_of (addI_of (a := z) rfl (bin_of (x := .int 613) (y := .int (i : Nat)) rfl rfl (v_mulIl (by decide)))) (b := 29) rfl
    have t2 : dBin pAdd (dBin pAdd (dVar 2) (dBin pMul (dC (.int 71)) (dVar 1))) (dC (.int 5)) ρ ([] : Sto) = some (.int (z + 71 * (i : Int) + 5), []) := addI_of (addI_of (a := z) rfl (bin_of (x := .int 71) (y := .int (i : Nat)) rfl rfl (v_mulIl (by decide)))) (b := 5) rfl
    exact ⟨_, pureOf_of (S' := []) (run_rt rfl ((seq_nx s1).trans ((seq_nx s2).trans ((seq_nx s3).trans (ret_of (modI_of (bin_of t1 t2 (v_mulI (by omega))) (b := 1000003) rfl (by decide))))))) rfl⟩
def w_nl (b : Int) : List Nat := (List.range (1 + w_pt b 7 6).toNat).map fun j => 97 + (w_pt b j 26).toNat
def w_nm (b : Int) (k : Nat) : Str := txt ((w_nl b).set (w_pt b 3 (1 + w_pt b 7 6)).toNat (97 + ((w_pt b 4 26 + (k : Int)) % 26).toNat))
theorem w_join_loc {f : DE} {ρ : Ev} {S S1 : Sto} {n : Nat} {cs : List Nat} (h : f ρ S = some (.loc n, S1)) (hn : S1[n]? = some (.lst (cs.map fun c => .str (one1 c)))) (hl : cs.length ≤ 1000000) : dM1 pJoin (dC (.str "")) f ρ S = some (.str (txt cs), S1) := by
  unfold dM1
  simp only [v_c, h]
  unfold pJoin itemsD
  simp only [asL_loc hn, Dn.strsD_map]
  have e := ones_sum cs
  rw [if_pos, Dn.join_ones]
  rw [e]
  show cs.length + (cs.map one1).length * 0 ≤ _
  omega
theorem w_name (b : Int) (k : Nat) : pureOf F_law_name [.int b, .int (k : Nat)] = some (.str (w_nm b k)) := by
  let N (x2 x3 x4 x5 : Option DV) : List (Option DV) := [some (.int b), some (.int (k : Nat)), x2, x3, x4, x5]
  let o : Option DV := none
  let j2 : Option DV := some (.str "abcdefghijklmnopqrstuvwxyz")
  have sz := w_pt_in (c := b) (j := 7) (m := 6) (by decide)
  obtain ⟨n, hn⟩ : ∃ n : Nat, 1 + w_pt b 7 6 = (n : Nat) := ⟨(1 + w_pt b 7 6).toNat, by omega⟩
  have nn : (1 + w_pt b 7 6).toNat = n := by omega
  let j3 : Option DV := some (.int (n : Nat))
  have ps := w_pt_in (c := b) (j := 3) (m := (n : Int)) (by omega)
  let A : List Nat := (List.range n).map fun j => 97 + (w_pt b j 26).toNat
  have A0 : w_nl b = A := by unfold w_nl; rw [nn]
  have Al : A.length = n := by show ((List.range n).map _).length = n; rw [List.length_map, List.length_range]
  have s2 : dSet 2 (dC (.str "abcdefghijklmnopqrstuvwxyz")) (N o o o o) ([] : Sto) = some (.nx (N j2 o o o) []) := rfl
  have s3 : dSet 3 (dBin pAdd (dC (.int 1)) (dPrim (cP (pureOf F_law_part) []) (aCons (dVar 0) (aCons (dC (.int 7)) (aCons (dC (.int 6)) aNil))))) (N j2 o o o) ([] : Sto) = some (.nx (N j2 j3 o o) []) := by
    have : dBin pAdd (dC (.int 1)) (dPrim (cP (pureOf F_law_part) []) (aCons (dVar 0) (aCons (dC (.int 7)) (aCons (dC (.int 6)) aNil)))) (N j2 o o o) ([] : Sto) = some (.int (n : Nat), []) := by
      rw [← hn]
      exact addI_of (a := 1) rfl (w_part_of (c := b) (j := 7) (m := 6) rfl rfl rfl (by decide))
    exact set_of this
  have s4 : dSet 4 (dLcM (iRange1 (aCons (dVar 3) aNil)) (gSet 5) (dC (.bl true)) (dBin pIx (dVar 2) (dPrim (cP (pureOf F_law_part) []) (aCons (dVar 0) (aCons (dVar 5) (aCons (dC (.int 26)) aNil))))) [5]) (N j2 j3 o o) ([] : Sto) = some (.nx (N j2 j3 (some (.loc 0)) o) [.lst (A.map fun c => .str (one1 c))]) := by
    refine set_of ((dLcM_of (S1 := []) (S2 := []) (rgN_of (n := n) rfl (by omega)) (lc_all (D := fun (i : Nat) => DV.int i) (E := fun j => DV.str (one1 (97 + (w_pt b j 26).toNat))) (K := List.range n) fun j _ => ?_) (size_ok (by rw [List.length_map, List.length_range]; omega))).trans ?_)
    · have pj := w_pt_in (c := b) (j := j) (m := 26) (by decide)
      refine ⟨N j2 j3 o (some (.int (j : Nat))), rfl, rfl, bin_of (x := .str "abcdefghijklmnopqrstuvwxyz") rfl (w_part_of (c := b) (j := j) (m := 26) rfl rfl rfl (by decide)) (abc_ix pj.1 pj.2)⟩
    · simp only [A, List.map_map]; rfl
  let c : Nat := 97 + ((w_pt b 4 26 + (k : Int)) % 26).toNat
  let p : Nat := (w_pt b 3 (n : Int)).toNat
  have pl : p < n := by show (w_pt b 3 (n : Int)).toNat < n; omega
  have m0 := Int.emod_nonneg (w_pt b 4 26 + (k : Int)) (show (26 : Int) ≠ 0 by decide)
  have m1 := Int.emod_lt_of_pos (w_pt b 4 26 + (k : Int)) (show (0 : Int) < 26 by decide)
  have s5 : dSub (dBin pIx (dVar 2) (dBin pMod (dBin pAdd (dPrim (cP (pureOf F_law_part) []) (aCons (dVar 0) (aCons (dC (.int 4)) (aCons (dC (.int 26)) aNil)))) (dVar 1)) (dC (.int 26)))) (dVar 4) (dPrim (cP (pureOf F_law_part) []) (aCons (dVar 0) (aCons (dC (.int 3)) (aCons (dVar 3) aNil)))) (N j2 j3 (some (.loc 0)) o) [.lst (A.map fun c => .str (one1 c))] = some (.nx (N j2 j3 (some (.loc 0)) o) [.lst ((A.set p c).map fun c => .str (one1 c))]) := by
    refine (sub_of (y := .str (one1 c)) (x := .loc 0) (k := .int (w_pt b 3 (n : Int))) (S1 := [.lst (A.map fun c => .str (one1 c))]) (bin_of (x := .str "abcdefghijklmnopqrstuvwxyz") rfl (modI_of (addI_of (w_part_of (c := b) (j := 4) (m := 26) rfl rfl rfl (by decide)) (b := (k : Nat)) rfl) (b := 26) rfl (by decide)) (abc_ix m0 m1)) rfl (w_part_of (c := b) (j := 3) (m := (n : Nat)) rfl rfl rfl (by omega)) (setI_lst (j := p) rfl ?_)).trans ?_
    · rw [List.length_map, Al]
      unfold ixN
      rw [if_pos (by omega)]
      first
        | rfl
        | (rw [if_pos (by omega)])
        | simp [p]
    · rw [List.map_set]; rfl
  have fin : w_nm b k = txt (A.set p c) := by
    unfold w_nm
    rw [A0, hn]
  rw [fin]
  exact pureOf_of (S' := [.lst ((A.set p c).map fun c => .str (one1 c))]) (run_rt rfl ((seq_nx s2).trans ((seq_nx s3).trans ((seq_nx s4).trans ((seq_nx s5).trans (ret_of (w_join_loc (n := 0) (cs := A.set p c) rfl rfl (by rw [List.length_set, Al]; omega)))))))) rfl
theorem w_nm_ok (b : Int) (k : Nat) : PyData.strOk (w_nm b k) = true := by
  have key : ∀ cs : List Nat, (∀ x ∈ cs, x < 1114112) → PyData.strOk (txt cs) = true := fun cs h => by
    unfold PyData.strOk
    rw [← Array.all_toList, List.all_eq_true]
    intro x hx
    exact decide_eq_true (h x (by simpa [txt] using hx))
  refine key _ fun x hx => ?_
  rcases List.mem_or_eq_of_mem_set hx with h | h
  · obtain ⟨j, _, rfl⟩ := List.mem_map.mp h
    have := w_pt_in (c := b) (j := j) (m := 26) (by decide)
    omega
  · have m1 := Int.emod_lt_of_pos (w_pt b 4 26 + (k : Int)) (show (0 : Int) < 26 by decide)
    omega
theorem a_name_of {f g : DE} {ρ : List (Option DV)} {S S1 S2 : Sto} {b z : Int} (h1 : f ρ S = some (.int b, S1)) (h2 : g ρ S1 = some (.int z, S2)) (hz : 0 ≤ z) : dPrim (cP (pureOf F_law_name) []) (aCons f (aCons g aNil)) ρ S = some (.str (w_nm b z.toNat), S2) := by
  refine callPP (args2 h1 h2) rfl ?_
  have := w_name b z.toNat
  rw [Int.toNat_of_nonneg hz] at this
  exact this
theorem a_p40 {S : Sto} : pPow (.int 2) (.int 40) S = some (.int 1099511627776, S) := by rfl
theorem inD_strs {x : Str} : ∀ {K : List Str}, inD (.str x) (K.map DV.str) = decide (x ∈ K)
  | [] => rfl
  | y :: K => by
    have ih := inD_strs (x := x) (K := K)
    rw [List.map_cons]
    unfold inD at ih ⊢
    rw [List.any_cons, ih]
    by_cases q : x = y
    · subst q
      simp [eqF]
    · have q2 : ¬ y = x := fun e => q e.symm
      simp [eqF, q, q2]
end Lk14

namespace Lk14
open PySem PySem.Spec PyProof.Rows L2 Dn
/-! ### what the looker sees, plainly -/
def unk (cn sn : List Str) : PRow → Option Str
  | .load _ c => if c ∈ cn then none else some c
  | .store c _ => if c ∈ cn then none else some c
  | .take _ s _ => if s ∈ sn then none else some s
  | .lay s _ _ => if s ∈ sn then none else some s
  | _ => none
def gl (i : Nat) : PRow → Option Nat
  | .endr _ => none
  | .go n => some n
  | .ifr _ n => some (max n (i + 1))
  | _ => some (i + 1)
def fU (cn sn : List Str) : List PRow → Nat → Option (Str × Nat)
  | [], _ => none
  | r :: rs, i => match unk cn sn r with
    | some w => some (w, i)
    | none => fU cn sn rs (i + 1)
def fF (n : Nat) : List PRow → Nat → Option Nat
  | [], _ => none
  | r :: rs, i => match gl i r with
    | some g => if n ≤ g then some i else fF n rs (i + 1)
    | none => fF n rs (i + 1)
abbrev lS (l : List Str) : List DV := l.map DV.str
theorem notin_of {k : LK} {f g : DE} {ρ : Ev} {S S1 S2 : Sto} {w : Str} {l : List Str} (h1 : f ρ S = some (.str w, S1)) (h2 : g ρ S1 = some (.lst k (lS l), S2)) : dBin (pIn true) f g ρ S = some (.bl (!decide (w ∈ l)), S2) := by
  have fl : (lS l).all flD = true := by
    rw [List.all_eq_true]
    intro d hd
    obtain ⟨s, _, rfl⟩ := List.mem_map.mp hd
    rfl
  refine bin_of h1 h2 ?_
  show (if flD (.str w) = true ∧ (lS l).all flD = true then some (DV.bl (if (true : Bool) then !inD (.str w) (lS l) else inD (.str w) (lS l)), S2) else _) = _
  rw [if_pos ⟨rfl, fl⟩, inD_strs]
  rfl
/-! ### the looker -/
def woD : PRow → DV
  | .load _ c => .tup [.bl false, .str c]
  | .store c _ => .tup [.bl false, .str c]
  | .take _ s _ => .tup [.bl true, .str s]
  | .lay s _ _ => .tup [.bl true, .str s]
  | _ => .non
theorem worked (r : PRow) : pureOf F_worked_on [r.d] = some (woD r) := by cases r <;> rfl
theorem leads_eq (r : PRow) (i : Nat) : pureOf F_leads [r.d, .int (i : Nat)] = some (match gl i r with | some g => .int (g : Nat) | none => .non) := by
  let N : List (Option DV) := [some r.d, some (.int (i : Nat))]
  have ad : dBin pAdd (dVar 1) (dC (.int 1)) N ([] : Sto) = some (.int ((i + 1 : Nat) : Int), []) := by
    rw [show ((i + 1 : Nat) : Int) = (i : Int) + 1 by omega]
    exact addI_of (a := (i : Nat)) (b := 1) rfl rfl
  have fin : ∀ {d : DV}, b_leads N [] = some (.rt d []) → plain d = true → pureOf F_leads [r.d, .int (i : Nat)] = some d := fun {d} h hp => pureOf_of (S' := []) (run_rt rfl h) hp
  cases r with
  | endr a => exact fin rfl rfl
  | go n => exact fin rfl rfl
  | ifr a n =>
    refine fin (d := .int ((max n (i + 1) : Nat) : Int)) ?_ rfl
    have c0 : dIfS (dBin (pEq false) (dBin pIx (dVar 0) (dC (.int 0))) (dC (.str "end"))) (dRet (dC .non)) dNext N ([] : Sto) = some (.nx N []) := rfl
    have c1 : dIfS (dBin (pEq false) (dBin pIx (dVar 0) (dC (.int 0))) (dC (.str "go"))) (dRet (dBin pIx (dVar 0) (dC (.int 1)))) dNext N ([] : Sto) = some (.nx N []) := rfl
    have c2 : dBin (pEq false) (dBin pIx (dVar 0) (dC (.int 0))) (dC (.str "if")) N ([] : Sto) = some (.bl true, []) := rfl
    have ix : dBin pIx (dVar 0) (dC (.int 2)) N ([] : Sto) = some (.int (n : Nat), []) := rfl
    refine (seq_nx c0).trans ((seq_nx c1).trans (seq_rt ((ifS_t c2).trans (ret_of ?_))))
    refine prim_of (args2 ix ad) ?_
    have e : (if ((i + 1 : Nat) : Int) > ((n : Nat) : Int) then ((i + 1 : Nat) : Int) else ((n : Nat) : Int)) = ((max n (i + 1) : Nat) : Int) := by split <;> omega
    show some (DV.int (if ((i + 1 : Nat) : Int) > ((n : Nat) : Int) then ((i + 1 : Nat) : Int) else ((n : Nat) : Int)), ([] : Sto)) = _
    rw [e]
  | _ => exact fin ((seq_nx (ρ' := N) (S' := []) rfl).trans ((seq_nx (ρ' := N) (S' := []) rfl).trans ((seq_nx (ρ' := N) (S' := []) rfl).trans (ret_of ad)))) rfl
abbrev kE (CD SD RD : DV) (x1 x5 x6 x7 x8 : Option DV) (P : DV) : List (Option DV) := [some P, x1, some CD, some SD, some RD, x5, x6, x7, x8, none]
abbrev toldV (cn sn : List Str) : DV := .lst .own [.lst .own (lS cn), .lst .own (lS sn)]
abbrev k1B : DSX := xSeq (xL (dSet 7 (dPrim (cP (pureOf F_worked_on) []) (aCons (dVar 6) aNil))))
  (xIf (dAnd (dBin (pIs true) (dVar 7) (dC .non)) (dBin (pIn true) (dBin pIx (dVar 7) (dC (.int 1))) (dBin pIx (dVar 1) (dPrim pInt (aCons (dBin pIx (dVar 7) (dC (.int 0))) aNil))))) (xRaise "Unknown" ["word", "row"] (aCons (dBin pIx (dVar 7) (dC (.int 1))) (aCons (dVar 5) aNil))) (xL dNext))
abbrev kG : DG := gTupD 2 (gsCons (gSet 5) (gsCons (gSet 6) gsNil))
theorem k1_body {cn sn : List Str} {CD SD RD P : DV} {r : PRow} {i : Nat} {x7 x8 : Option DV} {S : Sto} :
    ∃ y7, k1B (kE CD SD RD (some (toldV cn sn)) (some (.int (i : Nat))) (some r.d) x7 x8 P) S = match unk cn sn r with
      | some w => some (.ex "Unknown" ["row", "word"] [.int (i : Nat), .str w] (kE CD SD RD (some (toldV cn sn)) (some (.int (i : Nat))) (some r.d) y7 x8 P) S)
      | none => some (.ok (.nx (kE CD SD RD (some (toldV cn sn)) (some (.int (i : Nat))) (some r.d) y7 x8 P) S)) := by
  let N (y7 : Option DV) := kE CD SD RD (some (toldV cn sn)) (some (.int (i : Nat))) (some r.d) y7 x8 P
  have s7 : xL (dSet 7 (dPrim (cP (pureOf F_worked_on) []) (aCons (dVar 6) aNil))) (N x7) S = some (.ok (.nx (N (some (woD r))) S)) :=
    xl_of (set_of (callPP (args1 (x := r.d) rfl) (by rw [plainL_cons, PRow.plain_d]; rfl) (worked r)))
  refine ⟨some (woD r), (seqx s7).trans ?_⟩
  have raise : ∀ {w : Str}, dBin pIx (dVar 7) (dC (.int 1)) (N (some (woD r))) S = some (.str w, S) → xRaise "Unknown" ["word", "row"] (aCons (dBin pIx (dVar 7) (dC (.int 1))) (aCons (dVar 5) aNil)) (N (some (woD r))) S = some (.ex "Unknown" ["row", "word"] [.int (i : Nat), .str w] (N (some (woD r))) S) := fun {w} h =>
    xraise_of (ps := ["word", "row"]) (args2 (y := .int (i : Nat)) h rfl) rfl (by show 2 ≤ 1000; decide)
  have key : ∀ {w : Str} {b : Bool} {l : List Str}, woD r = .tup [.bl b, .str w] → dBin pIx (dVar 1) (dPrim pInt (aCons (dBin pIx (dVar 7) (dC (.int 0))) aNil)) (N (some (woD r))) S = some (.lst .own (lS l), S) → unk cn sn r = (if w ∈ l then none else some w) →
      xIf (dAnd (dBin (pIs true) (dVar 7) (dC .non)) (dBin (pIn true) (dBin pIx (dVar 7) (dC (.int 1))) (dBin pIx (dVar 1) (dPrim pInt (aCons (dBin pIx (dVar 7) (dC (.int 0))) aNil))))) (xRaise "Unknown" ["word", "row"] (aCons (dBin pIx (dVar 7) (dC (.int 1))) (aCons (dVar 5) aNil))) (xL dNext) (N (some (woD r))) S = match unk cn sn r with
        | some w => some (.ex "Unknown" ["row", "word"] [.int (i : Nat), .str w] (N (some (woD r))) S)
        | none => some (.ok (.nx (N (some (woD r))) S)) := fun {w b l} hw hl hu => by
    have w1 : dBin pIx (dVar 7) (dC (.int 1)) (N (some (woD r))) S = some (.str w, S) := by
      refine bin_of (x := woD r) (y := .int 1) rfl rfl ?_
      rw [hw]; rfl
    have c1 : dBin (pIs true) (dVar 7) (dC .non) (N (some (woD r))) S = some (.bl true, S) := by
      refine bin_of (x := woD r) (y := .non) rfl rfl ?_
      rw [hw]; rfl
    have c2 := notin_of (k := .own) w1 hl
    have cc := and_b c1 c2
    rw [hu]
    by_cases q : w ∈ l
    · rw [if_pos q]
      rw [decide_eq_true q] at cc
      exact (xif_f cc).trans rfl
    · rw [if_neg q]
      rw [decide_eq_false q] at cc
      exact (xif_t cc).trans (raise w1)
  have none_ : woD r = .non → unk cn sn r = none → xIf (dAnd (dBin (pIs true) (dVar 7) (dC .non)) (dBin (pIn true) (dBin pIx (dVar 7) (dC (.int 1))) (dBin pIx (dVar 1) (dPrim pInt (aCons (dBin pIx (dVar 7) (dC (.int 0))) aNil))))) (xRaise "Unknown" ["word", "row"] (aCons (dBin pIx (dVar 7) (dC (.int 1))) (aCons (dVar 5) aNil))) (xL dNext) (N (some (woD r))) S = match unk cn sn r with
        | some w => some (.ex "Unknown" ["row", "word"] [.int (i : Nat), .str w] (N (some (woD r))) S)
        | none => some (.ok (.nx (N (some (woD r))) S)) := fun hw hu => by
    have c1 : dBin (pIs true) (dVar 7) (dC .non) (N (some (woD r))) S = some (.bl false, S) := by
      refine bin_of (x := woD r) (y := .non) rfl rfl ?_
      rw [hw]; rfl
    rw [hu]
    exact (xif_f (and_f c1)).trans rfl
  cases r with
  | load x c => exact key (l := cn) rfl rfl rfl
  | store c a => exact key (l := cn) rfl rfl rfl
  | take x s a => exact key (l := sn) rfl rfl rfl
  | lay s a b => exact key (l := sn) rfl rfl rfl
  | _ => exact none_ rfl rfl
theorem k1_loop {cn sn : List Str} {CD SD RD P : DV} {x8 : Option DV} {S : Sto} : ∀ (rs : List PRow) (i : Nat) (x5 x6 x7 : Option DV),
    ∃ y5 y6 y7, forX kG k1B (enD i (rs.map PRow.d)) (kE CD SD RD (some (toldV cn sn)) x5 x6 x7 x8 P) S = match fU cn sn rs i with
      | some (w, j) => some (.ex "Unknown" ["row", "word"] [.int (j : Nat), .str w] (kE CD SD RD (some (toldV cn sn)) y5 y6 y7 x8 P) S)
      | none => some (.ok (.nx (kE CD SD RD (some (toldV cn sn)) y5 y6 y7 x8 P) S))
  | [], i, x5, x6, x7 => ⟨x5, x6, x7, rfl⟩
  | r :: rs, i, x5, x6, x7 => by
    obtain ⟨y7, e⟩ := k1_body (cn := cn) (sn := sn) (CD := CD) (SD := SD) (RD := RD) (P := P) (r := r) (i := i) (x7 := x7) (x8 := x8) (S := S)
    have g : kG (.tup [.int (i : Nat), r.d]) (kE CD SD RD (some (toldV cn sn)) x5 x6 x7 x8 P) S = some (kE CD SD RD (some (toldV cn sn)) (some (.int (i : Nat))) (some r.d) x7 x8 P, S) := rfl
    rw [List.map_cons]
    unfold enD forX
    rw [g]
    dsimp only
    rw [e]
    unfold fU
    cases hu : unk cn sn r with
    | some w => exact ⟨_, _, _, rfl⟩
    | none => exact k1_loop rs (i + 1) _ _ _
abbrev k2B : DSX := xSeq (xL (dSet 8 (dPrim (cP (pureOf F_leads) []) (aCons (dVar 6) (aCons (dVar 5) aNil)))))
  (xIf (dAnd (dBin (pIs true) (dVar 8) (dC .non)) (dBin pGe (dVar 8) (dPrim pLen (aCons (dVar 4) aNil)))) (xRaise "Falls" ["row"] (aCons (dVar 5) aNil)) (xL dNext))
theorem k2_loop {CD SD P : DV} {x1 x7 : Option DV} {S : Sto} {n : Nat} {Rs : List DV} (hn : Rs.length = n) : ∀ (rs : List PRow) (i : Nat) (x5 x6 x8 : Option DV),
    ∃ y5 y6 y8, forX kG k2B (enD i (rs.map PRow.d)) (kE CD SD (.tup Rs) x1 x5 x6 x7 x8 P) S = match fF n rs i with
      | some j => some (.ex "Falls" ["row"] [.int (j : Nat)] (kE CD SD (.tup Rs) x1 y5 y6 x7 y8 P) S)
      | none => some (.ok (.nx (kE CD SD (.tup Rs) x1 y5 y6 x7 y8 P) S))
  | [], i, x5, x6, x8 => ⟨x5, x6, x8, rfl⟩
  | r :: rs, i, x5, x6, x8 => by
    let N (y8 : Option DV) := kE CD SD (.tup Rs) x1 (some (.int (i : Nat))) (some r.d) x7 y8 P
    have g : kG (.tup [.int (i : Nat), r.d]) (kE CD SD (.tup Rs) x1 x5 x6 x7 x8 P) S = some (N x8, S) := rfl
    let L : DV := match gl i r with | some g => .int (g : Nat) | none => .non
    have s8 : xL (dSet 8 (dPrim (cP (pureOf F_leads) []) (aCons (dVar 6) (aCons (dVar 5) aNil)))) (N x8) S = some (.ok (.nx (N (some L)) S)) :=
      xl_of (set_of (callPP (args2 (x := r.d) (y := .int (i : Nat)) rfl rfl) (by rw [plainL_cons, PRow.plain_d]; rfl) (leads_eq r i)))
    have ln : dPrim pLen (aCons (dVar 4) aNil) (N (some L)) S = some (.int (n : Nat), S) := by
      have := lenT_of (f := dVar 4) (ρ := N (some L)) (S := S) (S1 := S) (xs := Rs) rfl
      rw [hn] at this
      exact this
    rw [List.map_cons]
    unfold enD forX
    rw [g]
    dsimp only
    rw [show k2B (N x8) S = _ from seqx s8]
    unfold fF
    cases hg : gl i r with
    | none =>
      have c1 : dBin (pIs true) (dVar 8) (dC .non) (N (some L)) S = some (.bl false, S) := by
        refine bin_of (x := L) (y := .non) rfl rfl ?_
        show pIs true (match gl i r with | some g => DV.int (g : Nat) | none => .non) .non S = _
        rw [hg]; rfl
      rw [(xif_f (and_f c1)).trans (show xL dNext (N (some L)) S = some (.ok (.nx (N (some L)) S)) from rfl)]
      exact k2_loop hn rs (i + 1) _ _ _
    | some m =>
      have c1 : dBin (pIs true) (dVar 8) (dC .non) (N (some L)) S = some (.bl true, S) := by
        refine bin_of (x := L) (y := .non) rfl rfl ?_
        show pIs true (match gl i r with | some g => DV.int (g : Nat) | none => .non) .non S = _
        rw [hg]; rfl
      have v8 : dVar 8 (N (some L)) S = some (.int (m : Nat), S) := by
        show some ((match gl i r with | some g => DV.int (g : Nat) | none => .non), S) = _
        rw [hg]
      have c2 : dBin pGe (dVar 8) (dPrim pLen (aCons (dVar 4) aNil)) (N (some L)) S = some (.bl (decide ((n : Int) ≤ (m : Int))), S) := bin_of v8 ln Dn.v_ge
      have cc := and_b c1 c2
      by_cases q : n ≤ m
      · rw [decide_eq_true (by omega : (n : Int) ≤ (m : Int))] at cc
        rw [(xif_t cc).trans (xraise_of (ps := ["row"]) (args1 (x := .int (i : Nat)) rfl) rfl (by show 1 ≤ 1000; decide))]
        dsimp only
        rw [if_pos q]
        exact ⟨_, _, _, rfl⟩
      · rw [decide_eq_false (by omega : ¬ (n : Int) ≤ (m : Int))] at cc
        rw [(xif_f cc).trans (show xL dNext (N (some L)) S = some (.ok (.nx (N (some L)) S)) from rfl)]
        dsimp only
        rw [if_neg q]
        exact k2_loop hn rs (i + 1) _ _ _
end Lk14

namespace Lk14
open PySem PySem.Spec PyProof.Rows L2 Dn
abbrev tD (c : Str × Int × Bool) : DV := .tup [.str c.1, .int c.2.1, .bl c.2.2]
abbrev kP (cells shelves : List (Str × Int × Bool)) (rows : List PRow) : DV := .tup [.tup (cells.map tD), .tup (shelves.map tD), .tup (rows.map PRow.d)]
/-- what the looker answers -/
def lookR (cn sn : List Str) (rows : List PRow) (S : Sto) : ResX := match fU cn sn rows 0 with
  | some (w, j) => .ex "Unknown" ["row", "word"] [.int (j : Nat), .str w] S
  | none => if rows = [] then .ex "Falls" ["row"] [.int 0] S else match fF rows.length rows 0 with
    | some j => .ex "Falls" ["row"] [.int (j : Nat)] S
    | none => .ok (.bl true) S
theorem runx_ex {np n : Nat} {b : DSX} {xs : List DV} {S S' : Sto} {C : Str} {ns : List Str} {ds : List DV} {ρ : Ev} (hl : xs.length = np) (h : b (xs.map some ++ List.replicate (n - xs.length) none) S = some (.ex C ns ds ρ S')) : runX np n b xs S = some (.ex C ns ds S') := by
  unfold runX
  rw [if_pos hl, h]
theorem runx_rt {np n : Nat} {b : DSX} {xs : List DV} {S S' : Sto} {d : DV} (hl : xs.length = np) (h : b (xs.map some ++ List.replicate (n - xs.length) none) S = some (.ok (.rt d S'))) : runX np n b xs S = some (.ok d S') := by
  unfold runX
  rw [if_pos hl, h]
theorem xfor_of {it : DI} {g : DG} {b : DSX} {ρ : Ev} {S S1 : Sto} {ds : List DV} {o : Option OutX} (h1 : it ρ S = some (ds, S1)) (h2 : forX g b ds ρ S1 = o) : xFor it g b ρ S = o := by
  unfold xFor
  rw [h1]
  exact h2
theorem look_eq (cells shelves : List (Str × Int × Bool)) (rows : List PRow) (hc : cells.length ≤ 1000) (hs : shelves.length ≤ 1000) (S : Sto) : F_look [kP cells shelves rows] S = some (lookR (cells.map (·.1)) (shelves.map (·.1)) rows S) := by
  let cn := cells.map (·.1)
  let sn := shelves.map (·.1)
  let CD : DV := .tup (cells.map tD)
  let SD : DV := .tup (shelves.map tD)
  let Rs := rows.map PRow.d
  let P := kP cells shelves rows
  let N (x1 x5 x6 x7 x8 : Option DV) := kE CD SD (.tup Rs) x1 x5 x6 x7 x8 P
  let o : Option DV := none
  have s1 : xL (dAsg (dVar 0) (gTupD 3 (gsCons (gSet 2) (gsCons (gSet 3) (gsCons (gSet 4) gsNil))))) [some P, o, o, o, o, o, o, o, o, o] S = some (.ok (.nx (N o o o o o) S)) := rfl
  have nm : ∀ (i : Nat) (l : List (Str × Int × Bool)), l.length ≤ 1000 → dVar i (N o o o o o) S = some (.tup (l.map tD), S) → dLc (iSeq (dVar i)) (gSet 9) (dC (.bl true)) (dBin pIx (dVar 9) (dC (.int 0))) [9] (N o o o o o) S = some (.lst .own (lS (l.map (·.1))), S) := fun i l hl hv => by
    refine (dLc_of (vs := [9]) (iSeqT_of hv) (lc_all (D := tD) (E := fun c => DV.str c.1) (K := l) fun c _ => ⟨[some P, o, some CD, some SD, some (.tup Rs), o, o, o, o, some (tD c)], rfl, rfl, bin_of (x := tD c) (y := .int 0) rfl rfl rfl⟩) (size_ok (by rw [List.length_map]; omega))).trans ?_
    show some (DV.lst .own (l.map fun c => .str c.1), S) = some (DV.lst .own ((l.map (·.1)).map .str), S)
    rw [List.map_map]; rfl
  have s2 : xL (dSet 1 (dPrim pLst (aCons (dLc (iSeq (dVar 2)) (gSet 9) (dC (.bl true)) (dBin pIx (dVar 9) (dC (.int 0))) [9]) (aCons (dLc (iSeq (dVar 3)) (gSet 9) (dC (.bl true)) (dBin pIx (dVar 9) (dC (.int 0))) [9]) aNil)))) (N o o o o o) S = some (.ok (.nx (N (some (toldV cn sn)) o o o o) S)) :=
    xl_of (set_of (prim_of (args2 (nm 2 cells hc rfl) (nm 3 shelves hs rfl)) rfl))
  obtain ⟨y5, y6, y7, e3⟩ := k1_loop (cn := cn) (sn := sn) (CD := CD) (SD := SD) (RD := .tup Rs) (P := P) (x8 := o) (S := S) rows 0 o o o
  have e3 := xfor_of (it := iEnum2 (aCons (dVar 4) aNil)) (ρ := N (some (toldV cn sn)) o o o o) (S := S) (S1 := S) rfl e3
  unfold lookR
  cases hu : fU cn sn rows 0 with
  | some q =>
    obtain ⟨w, j⟩ := q
    rw [hu] at e3
    exact runx_ex rfl ((seqx s1).trans ((seqx s2).trans (seqx_ex e3)))
  | none =>
    rw [hu] at e3
    dsimp only at e3 ⊢
    let ρ := N (some (toldV cn sn)) y5 y6 y7 o
    have ln : dPrim pLen (aCons (dVar 4) aNil) ρ S = some (.int (rows.length : Nat), S) := by
      have := lenT_of (f := dVar 4) (ρ := ρ) (S := S) (S1 := S) (xs := Rs) rfl
      rw [List.length_map] at this
      exact this
    have c4 : dBin (pEq false) (dPrim pLen (aCons (dVar 4) aNil)) (dC (.int 0)) ρ S = some (.bl (decide ((rows.length : Int) = 0)), S) := bin_of ln (y := .int 0) rfl v_eqI
    by_cases q : rows = []
    · rw [decide_eq_true (by rw [q]; rfl)] at c4
      rw [if_pos q]
      exact runx_ex rfl ((seqx s1).trans ((seqx s2).trans ((seqx e3).trans (seqx_ex ((xif_t c4).trans (xraise_of (ps := ["row"]) (args1 (x := .int 0) rfl) rfl (by show 1 ≤ 1000; decide)))))))
    · have l0 : 0 < rows.length := List.length_pos_iff.mpr q
      rw [decide_eq_false (by omega)] at c4
      rw [if_neg q]
      have s4 := (xif_f (f := xRaise "Falls" ["row"] (aCons (dC (.int 0)) aNil)) c4).trans (show xL dNext ρ S = some (.ok (.nx ρ S)) from rfl)
      obtain ⟨z5, z6, z8, e5⟩ := k2_loop (CD := CD) (SD := SD) (P := P) (x1 := some (toldV cn sn)) (x7 := y7) (S := S) (n := rows.length) (Rs := Rs) (by rw [List.length_map]) rows 0 y5 y6 o
      have e5 := xfor_of (it := iEnum2 (aCons (dVar 4) aNil)) (ρ := ρ) (S := S) (S1 := S) rfl e5
      cases hf : fF rows.length rows 0 with
      | some j =>
        rw [hf] at e5
        exact runx_ex rfl ((seqx s1).trans ((seqx s2).trans ((seqx e3).trans ((seqx s4).trans (seqx_ex e5)))))
      | none =>
        rw [hf] at e5
        exact runx_rt rfl ((seqx s1).trans ((seqx s2).trans ((seqx e3).trans ((seqx s4).trans ((seqx e5).trans rfl)))))
/-! ### told -/
def dueD (cn sn : List Str) (rows : List PRow) : DV := match fU cn sn rows 0 with
  | some (w, j) => .lst .own [.str "unknown", .str w, .int (j : Nat)]
  | none => if rows = [] then .lst .own [.str "falls", .int 0] else match fF rows.length rows 0 with
    | some j => .lst .own [.str "falls", .int (j : Nat)]
    | none => .lst .own [.str "good"]
theorem whole_eq (i : Int) : pureOf F_law_whole [.int i] = some (.bl true) := rfl
theorem try_ok {f : DSX} {cs : List Str} {i : Nat} {g : DS} {ρ : Ev} {S : Sto} {o : Out} (h : f ρ S = some (.ok o)) : dTry f cs i g ρ S = some o := by
  unfold dTry
  rw [h]
theorem try_ex {f : DSX} {cs : List Str} {i : Nat} {g : DS} {ρ ρ' ρ2 : Ev} {S S' S2 : Sto} {C : Str} {ns : List Str} {ds : List DV} (h : f ρ S = some (.ex C ns ds ρ' S')) (hc : cs.contains C = true) (hg : g (ρ'.set i (some (.exc C ns ds))) S' = some (.nx ρ2 S2)) : dTry f cs i g ρ S = some (.nx (ρ2.set i none) S2) := by
  unfold dTry
  rw [h]
  dsimp only
  rw [if_pos hc, hg]
theorem xset_ok {i : Nat} {f : DEX} {ρ : Ev} {S S' : Sto} {d : DV} (h : f ρ S = some (.ok d S')) : xSet i f ρ S = some (.ok (.nx (ρ.set i (some d)) S')) := by
  unfold xSet
  rw [h]
theorem xset_ex {i : Nat} {f : DEX} {ρ : Ev} {S S' : Sto} {C : Str} {ns : List Str} {ds : List DV} (h : f ρ S = some (.ex C ns ds S')) : xSet i f ρ S = some (.ex C ns ds ρ S') := by
  unfold xSet
  rw [h]
theorem xcall_of {f : PLX} {fa : DA} {ρ : Ev} {S S1 : Sto} {xs : List DV} {r : Option ResX} (h : fa ρ S = some (xs, S1)) (hf : f xs S1 = r) : xCall f fa ρ S = r := by
  unfold xCall
  rw [h]
  exact hf
theorem told_eq (cells shelves : List (Str × Int × Bool)) (rows : List PRow) (hc : cells.length ≤ 1000) (hs : shelves.length ≤ 1000) : pureOf F_law_told [kP cells shelves rows] = some (dueD (cells.map (·.1)) (shelves.map (·.1)) rows) := by
  let cn := cells.map (·.1)
  let sn := shelves.map (·.1)
  let P := kP cells shelves rows
  let N (x1 x2 x3 : Option DV) : List (Option DV) := [some P, x1, x2, x3]
  have e := look_eq cells shelves rows hc hs []
  have s1 : dSet 1 (dC .non) (N none none none) ([] : Sto) = some (.nx (N (some .non) none none) []) := rfl
  have s2 : dSet 2 (dC .non) (N (some .non) none none) ([] : Sto) = some (.nx (N (some .non) (some .non) none) []) := rfl
  let ρ := N (some .non) (some .non) none
  have call : ∀ {r : ResX}, lookR cn sn rows [] = r → xCall F_look (aCons (dVar 0) aNil) ρ ([] : Sto) = some r := fun {r} h => xcall_of (args1 (x := P) rfl) (by rw [← h]; exact e)
  have exc : ∀ {C : Str} {ns : List Str} {ds : List DV}, lookR cn sn rows [] = .ex C ns ds [] → XC_DimError.contains C = true → dTry (xSet 2 (xCall F_look (aCons (dVar 0) aNil))) XC_DimError 3 (dSet 1 (dVar 3)) ρ ([] : Sto) = some (.nx (N (some (.exc C ns ds)) (some .non) none) []) := fun {C ns ds} h hC =>
    try_ex (i := 3) (g := dSet 1 (dVar 3)) (ρ2 := N (some (.exc C ns ds)) (some .non) (some (.exc C ns ds))) (S2 := []) (xset_ex (i := 2) (call h)) hC rfl
  have falls : ∀ {j : Nat}, lookR cn sn rows [] = .ex "Falls" ["row"] [.int (j : Nat)] [] → pureOf F_law_told [P] = some (.lst .own [.str "falls", .int (j : Nat)]) := fun {j} h => by
    have s3 := exc h (by decide)
    let ρ3 := N (some (.exc "Falls" ["row"] [.int (j : Nat)])) (some .non) none
    have c4 : dBin (pIs false) (dVar 1) (dC .non) ρ3 ([] : Sto) = some (.bl false, []) := rfl
    have c5 : dOr (dNot (dIsX XT XJ1 ["ValueError"] (dVar 1))) (dIsX XT XJ2 ["BadLine", "Twice", "NoLabel"] (dVar 1)) ρ3 ([] : Sto) = some (.bl false, []) := rfl
    have rw_ : dXat XT "row" (dVar 1) ρ3 ([] : Sto) = some (.int (j : Nat), []) := rfl
    have c6 : dOr (dBin (pEq false) (dIsX XT XJ1 ["Unknown"] (dVar 1)) (dIsX XT XJ1 ["Falls"] (dVar 1))) (dNot (dPrim (cP (pureOf F_law_whole) []) (aCons (dXat XT "row" (dVar 1)) aNil))) ρ3 ([] : Sto) = some (.bl false, []) :=
      or_f (S1 := []) rfl (not_of (a := true) (callPP (args1 rw_) rfl (whole_eq _)))
    have c7 : dIsX XT XJ1 ["Falls"] (dVar 1) ρ3 ([] : Sto) = some (.bl true, []) := rfl
    exact pureOf_of (S' := []) (run_rt rfl ((seq_nx s1).trans ((seq_nx s2).trans ((seq_nx s3).trans ((seq_nx ((ifS_f c4).trans rfl)).trans ((seq_nx ((ifS_f c5).trans rfl)).trans ((seq_nx ((ifS_f c6).trans rfl)).trans (seq_rt ((ifS_t c7).trans (ret_of (prim_of (args2 (x := .str "falls") rfl rw_) rfl))))))))))) rfl
  unfold dueD
  unfold lookR at falls exc call
  cases hu : fU cn sn rows 0 with
  | some q =>
    obtain ⟨w, j⟩ := q
    rw [hu] at exc
    have s3 := exc rfl (by decide)
    let ρ3 := N (some (.exc "Unknown" ["row", "word"] [.int (j : Nat), .str w])) (some .non) none
    have c4 : dBin (pIs false) (dVar 1) (dC .non) ρ3 ([] : Sto) = some (.bl false, []) := rfl
    have c5 : dOr (dNot (dIsX XT XJ1 ["ValueError"] (dVar 1))) (dIsX XT XJ2 ["BadLine", "Twice", "NoLabel"] (dVar 1)) ρ3 ([] : Sto) = some (.bl false, []) := rfl
    have rw_ : dXat XT "row" (dVar 1) ρ3 ([] : Sto) = some (.int (j : Nat), []) := rfl
    have ww : dXat XT "word" (dVar 1) ρ3 ([] : Sto) = some (.str w, []) := rfl
    have c6 : dOr (dBin (pEq false) (dIsX XT XJ1 ["Unknown"] (dVar 1)) (dIsX XT XJ1 ["Falls"] (dVar 1))) (dNot (dPrim (cP (pureOf F_law_whole) []) (aCons (dXat XT "row" (dVar 1)) aNil))) ρ3 ([] : Sto) = some (.bl false, []) :=
      or_f (S1 := []) rfl (not_of (a := true) (callPP (args1 rw_) rfl (whole_eq _)))
    have c7 : dIsX XT XJ1 ["Falls"] (dVar 1) ρ3 ([] : Sto) = some (.bl false, []) := rfl
    exact pureOf_of (S' := []) (run_rt rfl ((seq_nx s1).trans ((seq_nx s2).trans ((seq_nx s3).trans ((seq_nx ((ifS_f c4).trans rfl)).trans ((seq_nx ((ifS_f c5).trans rfl)).trans ((seq_nx ((ifS_f c6).trans rfl)).trans ((seq_nx ((ifS_f c7).trans rfl)).trans (ret_of (prim_of (args3 (x := .str "unknown") rfl ww rw_) rfl)))))))))) rfl
  | none =>
    rw [hu] at falls call
    by_cases q : rows = []
    · rw [if_pos q] at falls
      dsimp only
      rw [if_pos q]
      exact falls (j := 0) rfl
    · rw [if_neg q] at falls call
      dsimp only
      rw [if_neg q]
      cases hf : fF rows.length rows 0 with
      | some j =>
        rw [hf] at falls
        exact falls rfl
      | none =>
        rw [hf] at call
        have s3 : dTry (xSet 2 (xCall F_look (aCons (dVar 0) aNil))) XC_DimError 3 (dSet 1 (dVar 3)) ρ ([] : Sto) = some (.nx (N (some .non) (some (.bl true)) none) []) := try_ok (xset_ok (call rfl))
        exact pureOf_of (S' := []) (run_rt rfl ((seq_nx s1).trans ((seq_nx s2).trans ((seq_nx s3).trans (seq_rt rfl))))) rfl
/-! ### made by hand -/
theorem made_eq (w : Str) (n : Int) : pureOf F_law_made [.str w, .int n] = some (.bl true) := by
  let N (x2 : Option DV) : List (Option DV) := [some (.str w), some (.int n), x2]
  let u : DV := .exc "Unknown" ["row", "word"] [.int n, .str w]
  have s2 : dSet 2 (dExc "Unknown" ["word", "row"] (aCons (dVar 0) (aCons (dVar 1) aNil))) (N none) ([] : Sto) = some (.nx (N (some u)) []) := by
    refine set_of ?_
    unfold dExc
    rw [show aCons (dVar 0) (aCons (dVar 1) aNil) (N none) ([] : Sto) = some ([.str w, .int n], []) from rfl]
    dsimp only
    rw [if_pos ⟨rfl, by show 2 ≤ 1000; decide⟩]
    rfl
  let ρ := N (some u)
  have es : ∀ {neg : Bool}, pEq neg (.str w) (.str w) ([] : Sto) = some (.bl (!neg), []) := fun {neg} => by
    unfold pEq eqD
    rw [show scD (.str w) (.str w) = some (decide (w = w)) from rfl, decide_eq_true rfl]
    cases neg <;> rfl
  have one : ∀ {C fl : Str} {i : Nat} {x : DV}, dVar i ρ ([] : Sto) = some (x, []) → dExc C [fl] (aCons (dVar i) aNil) ρ ([] : Sto) = some (.exc C [fl] [x], []) := fun {C fl i x} h => by
    unfold dExc
    rw [args1 h]
    dsimp only
    rw [if_pos ⟨rfl, by show 1 ≤ 1000; decide⟩]
    rfl
  have fld : ∀ {C n : Str} {g : DE} {ns : List Str} {ds : List DV} {d : DV} {t : Str × List Str}, g ρ ([] : Sto) = some (.exc C ns ds, []) → (XT.find? fun t => t.1 == C) = some t → t.2.contains n = true → (ns.zip ds).lookup n = some d → dXat XT n g ρ ([] : Sto) = some (d, []) := fun {C n g ns ds d t} h1 h2 h3 h4 => by
    unfold dXat
    rw [h1]
    dsimp only
    rw [h2]
    dsimp only
    rw [if_pos h3, h4]
  have c3 : dOr (dBin (pEq true) (dXat XT "word" (dVar 2)) (dVar 0)) (dOr (dBin (pEq true) (dXat XT "row" (dVar 2)) (dVar 1)) (dOr (dBin (pEq true) (dXat XT "row" (dExc "Falls" ["row"] (aCons (dVar 1) aNil))) (dVar 1)) (dBin (pEq true) (dXat XT "at" (dExc "BadLine" ["at"] (aCons (dVar 1) aNil))) (dVar 1)))) ρ ([] : Sto) = some (.bl false, []) :=
    or_f (bin_of (x := .str w) (y := .str w) rfl rfl es) (or_f (bin_of (x := .int n) (y := .int n) rfl rfl (eq_int true)) (or_f (bin_of (x := .int n) (y := .int n) (fld (one rfl) rfl (by decide) rfl) rfl (eq_int true)) (bin_of (x := .int n) (y := .int n) (fld (one rfl) rfl (by decide) rfl) rfl (eq_int true))))
  have c4 : dAnd (dBin (pEq false) (dXat XT "word" (dExc "Twice" ["word"] (aCons (dVar 0) aNil))) (dVar 0)) (dAnd (dBin (pEq false) (dXat XT "word" (dExc "NoLabel" ["word"] (aCons (dVar 0) aNil))) (dVar 0)) (dIsX XT XJ1 ["DimError"] (dVar 2))) ρ ([] : Sto) = some (.bl true, []) :=
    and_t (S1 := []) (bin_of (x := .str w) (y := .str w) (fld (one rfl) rfl (by decide) rfl) rfl es) (and_t (S1 := []) (bin_of (x := .str w) (y := .str w) (fld (one rfl) rfl (by decide) rfl) rfl es) rfl)
  exact pureOf_of (S' := []) (run_rt rfl ((seq_nx s2).trans ((seq_nx ((ifS_f c3).trans rfl)).trans (ret_of c4)))) rfl
end Lk14

namespace Lk14
open PySem PySem.Spec PyProof.Rows L2 Dn
/-! ### what is due -/
def kn : PRow → Str
  | .say _ => "say" | .copy _ _ => "copy" | .op _ _ _ _ => "op" | .load _ _ => "load" | .store _ _ => "store" | .take _ _ _ => "take" | .lay _ _ _ => "lay" | .hear _ => "hear" | .ifr _ _ => "if" | .go _ => "go" | .endr _ => "end"
def wd : PRow → Option (Bool × Str)
  | .load _ c => some (false, c)
  | .store c _ => some (false, c)
  | .take _ s _ => some (true, s)
  | .lay s _ _ => some (true, s)
  | _ => none
theorem unk_wd (cn sn : List Str) (r : PRow) : unk cn sn r = match wd r with
    | some (b, w) => if w ∈ (if b = true then sn else cn) then none else some w
    | none => none := by cases r <;> rfl
theorem kn_ix {r : PRow} {S : Sto} : pIx r.d (.int 0) S = some (.str (kn r), S) := by cases r <;> rfl
theorem word_eq {r : PRow} {b : Bool} {w : Str} (h : wd r = some (b, w)) : pureOf F_law_word [r.d] = some (.str w) := by cases r <;> first | (cases h; rfl) | cases h
theorem in_ls {r : PRow} {S : Sto} : pIn false (.str (kn r)) (.tup [.str "load", .str "store"]) S = some (.bl (match wd r with | some (false, _) => true | _ => false), S) := by cases r <;> rfl
theorem in_tl {r : PRow} {S : Sto} : pIn false (.str (kn r)) (.tup [.str "take", .str "lay"]) S = some (.bl (match wd r with | some (true, _) => true | _ => false), S) := by cases r <;> rfl
abbrev kU (w : Str) (j : Nat) : DV := .lst .own [.str "unknown", .str w, .int (j : Nat)]
abbrev d1B : DS := (dSeq (dIfS (dAnd (dBin (pIn false) (dBin pIx (dBin pIx (dVar 2) (dVar 3)) (dC (.int 0))) (dPrim pTup (aCons (dC (.str "load")) (aCons (dC (.str "store")) aNil)))) (dBin (pIn true) (dPrim (cP (pureOf F_law_word) []) (aCons (dBin pIx (dVar 2) (dVar 3)) aNil)) (dVar 0))) (dRet (dPrim pLst (aCons (dC (.str "unknown")) (aCons (dPrim (cP (pureOf F_law_word) []) (aCons (dBin pIx (dVar 2) (dVar 3)) aNil)) (aCons (dVar 3) aNil))))) dNext)
  (dIfS (dAnd (dBin (pIn false) (dBin pIx (dBin pIx (dVar 2) (dVar 3)) (dC (.int 0))) (dPrim pTup (aCons (dC (.str "take")) (aCons (dC (.str "lay")) aNil)))) (dBin (pIn true) (dPrim (cP (pureOf F_law_word) []) (aCons (dBin pIx (dVar 2) (dVar 3)) aNil)) (dVar 1))) (dRet (dPrim pLst (aCons (dC (.str "unknown")) (aCons (dPrim (cP (pureOf F_law_word) []) (aCons (dBin pIx (dVar 2) (dVar 3)) aNil)) (aCons (dVar 3) aNil))))) dNext))
section
variable {cn sn : List Str} {k : LK} {rows : List PRow}
abbrev dN (cn sn : List Str) (k : LK) (rows : List PRow) (x3 x4 : Option DV) : List (Option DV) := [some (.lst .own (lS cn)), some (.lst .own (lS sn)), some (.lst k (rows.map PRow.d)), x3, x4]
theorem row_at {r : PRow} {i : Nat} (hr : rows[i]? = some r) {x4 : Option DV} {S : Sto} : dBin pIx (dVar 2) (dVar 3) (dN cn sn k rows (some (.int (i : Nat))) x4) S = some (r.d, S) :=
  bin_of (x := .lst k (rows.map PRow.d)) (y := .int (i : Nat)) rfl rfl (ix_seq (atD_nat (by rw [List.getElem?_map, hr]; rfl)))
theorem d1_body {r : PRow} {i : Nat} (hr : rows[i]? = some r) {x4 : Option DV} {S : Sto} : d1B (dN cn sn k rows (some (.int (i : Nat))) x4) S = match unk cn sn r with
    | some w => some (.rt (kU w i) S)
    | none => some (.nx (dN cn sn k rows (some (.int (i : Nat))) x4) S) := by
  let ρ := dN cn sn k rows (some (.int (i : Nat))) x4
  have re : dBin pIx (dVar 2) (dVar 3) ρ S = some (r.d, S) := row_at hr
  have ke : dBin pIx (dBin pIx (dVar 2) (dVar 3)) (dC (.int 0)) ρ S = some (.str (kn r), S) := bin_of re (y := .int 0) rfl kn_ix
  have t1 : dBin (pIn false) (dBin pIx (dBin pIx (dVar 2) (dVar 3)) (dC (.int 0))) (dPrim pTup (aCons (dC (.str "load")) (aCons (dC (.str "store")) aNil))) ρ S = _ := bin_of ke (y := .tup [.str "load", .str "store"]) rfl in_ls
  have t2 : dBin (pIn false) (dBin pIx (dBin pIx (dVar 2) (dVar 3)) (dC (.int 0))) (dPrim pTup (aCons (dC (.str "take")) (aCons (dC (.str "lay")) aNil))) ρ S = _ := bin_of ke (y := .tup [.str "take", .str "lay"]) rfl in_tl
  have we : ∀ {b w}, wd r = some (b, w) → dPrim (cP (pureOf F_law_word) []) (aCons (dBin pIx (dVar 2) (dVar 3)) aNil) ρ S = some (.str w, S) := fun {b w} h => callPP (args1 re) (by rw [plainL_cons, PRow.plain_d]; rfl) (word_eq h)
  have ret : ∀ {b w}, wd r = some (b, w) → dRet (dPrim pLst (aCons (dC (.str "unknown")) (aCons (dPrim (cP (pureOf F_law_word) []) (aCons (dBin pIx (dVar 2) (dVar 3)) aNil)) (aCons (dVar 3) aNil)))) ρ S = some (.rt (kU w i) S) := fun {b w} h => ret_of (prim_of (args3 (x := .str "unknown") (z := .int (i : Nat)) rfl (we h) rfl) rfl)
  cases hw : wd r with
  | none =>
    rw [hw] at t1 t2
    rw [show unk cn sn r = none by rw [unk_wd, hw]]
    exact (seq_nx ((ifS_f (and_f t1)).trans rfl)).trans ((ifS_f (and_f t2)).trans rfl)
  | some q =>
    obtain ⟨b, w⟩ := q
    rw [hw] at t1 t2
    cases b with
    | false =>
      have n1 := notin_of (k := .own) (g := dVar 0) (S2 := S) (l := cn) (we hw) rfl
      rw [show unk cn sn r = if w ∈ cn then none else some w by rw [unk_wd, hw]; rfl]
      by_cases q : w ∈ cn
      · rw [if_pos q]
        rw [decide_eq_true q] at n1
        exact (seq_nx ((ifS_f (and_t t1 n1)).trans rfl)).trans ((ifS_f (and_f t2)).trans rfl)
      · rw [if_neg q]
        rw [decide_eq_false q] at n1
        exact seq_rt ((ifS_t (and_t t1 n1)).trans (ret hw))
    | true =>
      have n1 := notin_of (k := .own) (g := dVar 1) (S2 := S) (l := sn) (we hw) rfl
      rw [show unk cn sn r = if w ∈ sn then none else some w by rw [unk_wd, hw]; rfl]
      by_cases q : w ∈ sn
      · rw [if_pos q]
        rw [decide_eq_true q] at n1
        exact (seq_nx ((ifS_f (and_f t1)).trans rfl)).trans ((ifS_f (and_t t2 n1)).trans rfl)
      · rw [if_neg q]
        rw [decide_eq_false q] at n1
        exact (seq_nx ((ifS_f (and_f t1)).trans rfl)).trans ((ifS_t (and_t t2 n1)).trans (ret hw))
theorem forL_nx {g : DG} {body : DS} {d : DV} {ds : List DV} {ρ ρ1 ρ2 : Ev} {S S1 S2 : Sto} (h1 : g d ρ S = some (ρ1, S1)) (h2 : body ρ1 S1 = some (.nx ρ2 S2)) : forL g body (d :: ds) ρ S = forL g body ds ρ2 S2 := by
  unfold forL
  rw [h1]
  dsimp only
  rw [h2]
  cases ds <;> rfl
theorem forL_rt {g : DG} {body : DS} {d : DV} {ds : List DV} {ρ ρ1 : Ev} {S S1 S2 : Sto} {v : DV} (h1 : g d ρ S = some (ρ1, S1)) (h2 : body ρ1 S1 = some (.rt v S2)) : forL g body (d :: ds) ρ S = some (.rt v S2) := by
  unfold forL
  rw [h1]
  dsimp only
  rw [h2]
theorem drop_cons {i m : Nat} (h : i + (m + 1) = rows.length) : ∃ r, rows[i]? = some r ∧ rows.drop i = r :: rows.drop (i + 1) := by
  have lt : i < rows.length := by omega
  exact ⟨rows[i], List.getElem?_eq_getElem lt, List.drop_eq_getElem_cons lt⟩
theorem d1_loop {S : Sto} {x4 : Option DV} : ∀ (m i : Nat) (x3 : Option DV), i + m = rows.length →
    ∃ y3, forL (gSet 3) d1B ((List.range' i m).map fun (j : Nat) => DV.int j) (dN cn sn k rows x3 x4) S = match fU cn sn (rows.drop i) i with
      | some (w, j) => some (.rt (kU w j) S)
      | none => some (.nx (dN cn sn k rows y3 x4) S)
  | 0, i, x3, h => ⟨x3, by rw [List.drop_of_length_le (by omega)]; rfl⟩
  | m + 1, i, x3, h => by
    obtain ⟨r, hr, hd⟩ := drop_cons h
    have b := d1_body (cn := cn) (sn := sn) (k := k) hr (x4 := x4) (S := S)
    have g : gSet 3 (.int (i : Nat)) (dN cn sn k rows x3 x4) S = some (dN cn sn k rows (some (.int (i : Nat))) x4, S) := rfl
    rw [List.range'_succ, List.map_cons, hd]
    unfold fU
    cases hu : unk cn sn r with
    | some w =>
      rw [hu] at b
      exact ⟨none, forL_rt g b⟩
    | none =>
      rw [hu] at b
      obtain ⟨y3, e⟩ := d1_loop m (i + 1) (some (.int (i : Nat))) (by omega)
      exact ⟨y3, (forL_nx g b).trans e⟩
abbrev d2B : DS := (dSeq (dSet 4 (dPrim pLstM (aCons (dBin pAdd (dVar 3) (dC (.int 1))) aNil)))
  (dSeq (dIfS (dBin (pEq false) (dBin pIx (dBin pIx (dVar 2) (dVar 3)) (dC (.int 0))) (dC (.str "if"))) (dExpr (dMt pAppend (dVar 4) (aCons (dBin pIx (dBin pIx (dVar 2) (dVar 3)) (dC (.int 2))) aNil))) dNext)
  (dSeq (dIfS (dBin (pEq false) (dBin pIx (dBin pIx (dVar 2) (dVar 3)) (dC (.int 0))) (dC (.str "go"))) (dSet 4 (dPrim pLst (aCons (dBin pIx (dBin pIx (dVar 2) (dVar 3)) (dC (.int 1))) aNil))) dNext)
  (dIfS (dAnd (dBin (pEq true) (dBin pIx (dBin pIx (dVar 2) (dVar 3)) (dC (.int 0))) (dC (.str "end"))) (dBin pGe (dPrim pMax (aCons (dVar 4) aNil)) (dPrim pLen (aCons (dVar 2) aNil)))) (dRet (dPrim pLst (aCons (dC (.str "falls")) (aCons (dVar 3) aNil)))) dNext))))
abbrev kF (j : Nat) : DV := .lst .own [.str "falls", .int (j : Nat)]
theorem d2_body {r : PRow} {i : Nat} (hr : rows[i]? = some r) {x4 : Option DV} {S : Sto} : ∃ S' y4, d2B (dN cn sn k rows (some (.int (i : Nat))) x4) S = match gl i r with
    | some g => if rows.length ≤ g then some (.rt (kF i) S') else some (.nx (dN cn sn k rows (some (.int (i : Nat))) y4) S')
    | none => some (.nx (dN cn sn k rows (some (.int (i : Nat))) y4) S') := by
  let N (x4 : Option DV) := dN cn sn k rows (some (.int (i : Nat))) x4
  let S1 := S ++ [Cell.lst [.int ((i + 1 : Nat) : Int)]]
  have re : ∀ {x4 S}, dBin pIx (dVar 2) (dVar 3) (N x4) S = some (r.d, S) := fun {x4 S} => row_at hr
  have ke : ∀ {x4 S}, dBin pIx (dBin pIx (dVar 2) (dVar 3)) (dC (.int 0)) (N x4) S = some (.str (kn r), S) := fun {x4 S} => bin_of re (y := .int 0) rfl kn_ix
  have s4 : dSet 4 (dPrim pLstM (aCons (dBin pAdd (dVar 3) (dC (.int 1))) aNil)) (N x4) S = some (.nx (N (some (.loc S.length))) S1) := by
    refine set_of (prim_of (args1 (x := .int ((i + 1 : Nat) : Int)) ?_) rfl)
    rw [show ((i + 1 : Nat) : Int) = (i : Int) + 1 by omega]
    exact addI_of (a := (i : Nat)) (b := 1) rfl rfl
  have hS1 : S1[S.length]? = some (Cell.lst [.int ((i + 1 : Nat) : Int)]) := by
    show (S ++ [_])[S.length]? = _
    rw [List.getElem?_append_right (Nat.le_refl _), Nat.sub_self]; rfl
  have kd : ∀ {x4 S} (s : Str) (neg : Bool), dBin (pEq neg) (dBin pIx (dBin pIx (dVar 2) (dVar 3)) (dC (.int 0))) (dC (.str s)) (N x4) S = some (.bl (if neg then !decide (kn r = s) else decide (kn r = s)), S) := fun {x4 S} s neg => bin_of ke (y := .str s) rfl (by cases neg <;> rfl)
  have ln : ∀ {x4 S}, dPrim pLen (aCons (dVar 2) aNil) (N x4) S = some (.int (rows.length : Nat), S) := fun {x4 S} => by
    have := lenL_of (f := dVar 2) (ρ := N x4) (S := S) (k := k) (xs := rows.map PRow.d) rfl
    rw [List.length_map] at this
    exact this
  have mx1 : dPrim pMax (aCons (dVar 4) aNil) (N (some (.loc S.length))) S1 = some (.int ((i + 1 : Nat) : Int), S1) := by
    refine prim_of (args1 (x := .loc S.length) rfl) ?_
    unfold pMax
    simp only [asL_loc hS1]
    rfl
  have last : ∀ {x4 S} {g : Nat}, dPrim pMax (aCons (dVar 4) aNil) (N x4) S = some (.int (g : Nat), S) → decide (kn r = "end") = false → dIfS (dAnd (dBin (pEq true) (dBin pIx (dBin pIx (dVar 2) (dVar 3)) (dC (.int 0))) (dC (.str "end"))) (dBin pGe (dPrim pMax (aCons (dVar 4) aNil)) (dPrim pLen (aCons (dVar 2) aNil)))) (dRet (dPrim pLst (aCons (dC (.str "falls")) (aCons (dVar 3) aNil)))) dNext (N x4) S = if rows.length ≤ g then some (.rt (kF i) S) else some (.nx (N x4) S) := fun {x4 S g} hm he => by
    have c := and_t (show _ = some (.bl true, S) from (kd "end" true).trans (by rw [he]; rfl)) (bin_of hm ln Dn.v_ge)
    by_cases q : rows.length ≤ g
    · rw [decide_eq_true (by omega : (rows.length : Int) ≤ (g : Int))] at c
      rw [if_pos q]
      exact (ifS_t c).trans (ret_of rfl)
    · rw [decide_eq_false (by omega : ¬ (rows.length : Int) ≤ (g : Int))] at c
      rw [if_neg q]
      exact (ifS_f c).trans rfl
  have plain_ : ∀ {g : Nat}, g = i + 1 → decide (kn r = "if") = false → decide (kn r = "go") = false → decide (kn r = "end") = false → d2B (N x4) S = if rows.length ≤ g then some (.rt (kF i) S1) else some (.nx (N (some (.loc S.length))) S1) := fun {g} hg h1 h2 h3 => by
    subst hg
    exact (seq_nx s4).trans ((seq_nx ((ifS_f ((kd "if" false).trans (by rw [h1]; rfl))).trans rfl)).trans ((seq_nx ((ifS_f ((kd "go" false).trans (by rw [h2]; rfl))).trans rfl)).trans (last mx1 h3)))
  cases r with
  | endr a =>
    refine ⟨S1, some (.loc S.length), (seq_nx s4).trans ((seq_nx ((ifS_f (kd "if" false)).trans rfl)).trans ((seq_nx ((ifS_f (kd "go" false)).trans rfl)).trans ((ifS_f (and_f (kd "end" true))).trans rfl)))⟩
  | go n =>
    have s6 : dSet 4 (dPrim pLst (aCons (dBin pIx (dBin pIx (dVar 2) (dVar 3)) (dC (.int 1))) aNil)) (N (some (.loc S.length))) S1 = some (.nx (N (some (.lst .own [.int (n : Nat)]))) S1) := set_of (prim_of (args1 (bin_of re (y := .int 1) rfl rfl)) rfl)
    exact ⟨S1, _, (seq_nx s4).trans ((seq_nx ((ifS_f (kd "if" false)).trans rfl)).trans ((seq_nx ((ifS_t (kd "go" false)).trans s6)).trans (last (g := n) rfl rfl)))⟩
  | ifr a n =>
    let S2 := S1.set S.length (Cell.lst [.int ((i + 1 : Nat) : Int), .int (n : Nat)])
    have hS2 : S2[S.length]? = some (Cell.lst [.int ((i + 1 : Nat) : Int), .int (n : Nat)]) := List.getElem?_set_self (List.getElem?_eq_some_iff.mp hS1).1
    have s5 : dExpr (dMt pAppend (dVar 4) (aCons (dBin pIx (dBin pIx (dVar 2) (dVar 3)) (dC (.int 2))) aNil)) (N (some (.loc S.length))) S1 = some (.nx (N (some (.loc S.length))) S2) :=
      append_of (n := S.length) rfl hS1 (bin_of re (y := .int 2) rfl rfl) (by show 1 < 16777216; decide)
    have mx2 : dPrim pMax (aCons (dVar 4) aNil) (N (some (.loc S.length))) S2 = some (.int ((max n (i + 1) : Nat) : Int), S2) := by
      refine prim_of (args1 (x := .loc S.length) rfl) ?_
      have e : (if ((n : Nat) : Int) ≤ ((i + 1 : Nat) : Int) then ((i + 1 : Nat) : Int) else ((n : Nat) : Int)) = ((max n (i + 1) : Nat) : Int) := by split <;> omega
      unfold pMax
      simp only [asL_loc hS2]
      show some (DV.int (if ((n : Nat) : Int) ≤ ((i + 1 : Nat) : Int) then ((i + 1 : Nat) : Int) else ((n : Nat) : Int)), S2) = _
      rw [e]
    exact ⟨S2, _, (seq_nx s4).trans ((seq_nx ((ifS_t (kd "if" false)).trans s5)).trans ((seq_nx ((ifS_f (kd "go" false)).trans rfl)).trans (last mx2 rfl)))⟩
  | _ => exact ⟨S1, _, plain_ rfl rfl rfl rfl⟩
theorem d2_loop : ∀ (m i : Nat) (x3 x4 : Option DV) (S : Sto), i + m = rows.length →
    ∃ y3 y4 S', forL (gSet 3) d2B ((List.range' i m).map fun (j : Nat) => DV.int j) (dN cn sn k rows x3 x4) S = match fF rows.length (rows.drop i) i with
      | some j => some (.rt (kF j) S')
      | none => some (.nx (dN cn sn k rows y3 y4) S')
  | 0, i, x3, x4, S, h => ⟨x3, x4, S, by rw [List.drop_of_length_le (by omega)]; rfl⟩
  | m + 1, i, x3, x4, S, h => by
    obtain ⟨r, hr, hd⟩ := drop_cons h
    obtain ⟨S', y4, b⟩ := d2_body (cn := cn) (sn := sn) (k := k) hr (x4 := x4) (S := S)
    have g : gSet 3 (.int (i : Nat)) (dN cn sn k rows x3 x4) S = some (dN cn sn k rows (some (.int (i : Nat))) x4, S) := rfl
    rw [List.range'_succ, List.map_cons, hd]
    unfold fF
    cases hg : gl i r with
    | none =>
      rw [hg] at b
      obtain ⟨z3, z4, S2, e⟩ := d2_loop m (i + 1) (some (.int (i : Nat))) y4 S' (by omega)
      exact ⟨z3, z4, S2, (forL_nx g b).trans e⟩
    | some n =>
      rw [hg] at b
      dsimp only at b ⊢
      by_cases q : rows.length ≤ n
      · rw [if_pos q] at b ⊢
        exact ⟨none, none, S', forL_rt g b⟩
      · rw [if_neg q] at b ⊢
        obtain ⟨z3, z4, S2, e⟩ := d2_loop m (i + 1) (some (.int (i : Nat))) y4 S' (by omega)
        exact ⟨z3, z4, S2, (forL_nx g b).trans e⟩
end
theorem cpD_bor {S : Sto} {k : LK} {ds : List DV} (h : plainL ds = true) : cpD true S (.lst k ds) = some (.lst k ds) := by
  show mapD true _ (.lst k ds) = _
  unfold mapD
  rw [if_neg (by simp), mapDL_plain h]
theorem eq_nil {S : Sto} {k : LK} {ds : List DV} (hk : k ≠ .ext) (g1 : goodL ds = true) (g2 : deepL ds ≤ 60) (pl : plainL ds = true) : pEq false (.lst k ds) (.lst .own []) S = some (.bl ds.isEmpty, S) := by
  obtain ⟨p, h1, h2, h3⟩ := toPy_good (d := .lst k ds) g1
  have hd : p.depth ≤ 64 := by
    rw [h3]
    show deepL ds + 1 ≤ 64
    omega
  have c1 : cpD true S (.lst k ds) = some (.lst k ds) := cpD_bor pl
  have c2 : cpD true S (.lst .own []) = some (.lst .own []) := rfl
  have s1 : SeqAt.shaped p = true := by
    unfold SeqAt.shaped
    rw [h2, decide_eq_true hd] <;> rfl
  have e : eqDeep S (.lst k ds) (.lst .own []) = some (PyData.eqv p (.list [])) := by
    unfold eqDeep
    simp only [c1, c2, h1]
    rw [show toPy (.lst .own []) = some (.list []) from rfl]
    simp only
    rw [if_pos ⟨s1, rfl⟩]
  have hp : PyData.eqv p (.list []) = ds.isEmpty := by
    have h1' : toPy (.lst k ds) = some p := h1
    unfold toPy at h1'
    cases ds with
    | nil =>
      rw [show toPyL [] = some [] from rfl] at h1'
      cases h1'
      rfl
    | cons c cs =>
      cases ht : toPyL (c :: cs) with
      | none =>
        rw [ht] at h1'
        cases h1'
      | some ps =>
        rw [ht] at h1'
        cases h1'
        unfold toPyL at ht
        split at ht
        · split at ht
          · cases ht
            rfl
          · cases ht
        · cases ht
  have e2 : eqD S (.lst k ds) (.lst .own []) = some ds.isEmpty := by
    unfold eqD
    rw [show scD (.lst k ds) (.lst .own []) = none from rfl]
    dsimp only
    rw [e, hp]
  show (match eqD S (.lst k ds) (.lst .own []) with | some b => some (DV.bl (if (false : Bool) then !b else b), S) | none => none) = _
  rw [e2]
  rfl
theorem rows_deep (rows : List PRow) : deepL (rows.map PRow.d) ≤ 1 := deepL_map fun r _ => by
  have a0 : ∀ a : Atm, deep a.d = 0 := fun a => by cases a <;> rfl
  cases r <;> simp [PRow.d, deep, deepL, a0]
theorem due_eq (cn sn : List Str) (rows : List PRow) (k : LK) (hk : k ≠ .ext) (hl : rows.length ≤ 1000) (hg : ∀ r ∈ rows, good r.d = true) : pureOf F_law_due [.lst .own (lS cn), .lst .own (lS sn), .lst k (rows.map PRow.d)] = some (dueD cn sn rows) := by
  let N := dN cn sn k rows
  have ln : dPrim pLen (aCons (dVar 2) aNil) (N none none) ([] : Sto) = some (.int (rows.length : Nat), []) := by
    have := lenL_of (f := dVar 2) (ρ := N none none) (S := []) (k := k) (xs := rows.map PRow.d) rfl
    rw [List.length_map] at this
    exact this
  obtain ⟨y3, e1⟩ := d1_loop (cn := cn) (sn := sn) (k := k) (rows := rows) (S := []) (x4 := none) rows.length 0 none (by omega)
  rw [← List.range_eq_range', List.drop_zero] at e1
  have f1 := for_of (it := iRange1 (aCons (dPrim pLen (aCons (dVar 2) aNil)) aNil)) (gt := gSet 3) (s := d1B) (rgN_of (n := rows.length) ln (by omega)) e1
  unfold dueD
  cases hu : fU cn sn rows 0 with
  | some q =>
    obtain ⟨w, j⟩ := q
    rw [hu] at f1
    exact pureOf_of (S' := []) (run_rt rfl (seq_rt f1)) rfl
  | none =>
    rw [hu] at f1
    dsimp only at f1 ⊢
    have ln2 : dPrim pLen (aCons (dVar 2) aNil) (N y3 none) ([] : Sto) = some (.int (rows.length : Nat), []) := by
      have := lenL_of (f := dVar 2) (ρ := N y3 none) (S := []) (k := k) (xs := rows.map PRow.d) rfl
      rw [List.length_map] at this
      exact this
    obtain ⟨z3, z4, S', e2⟩ := d2_loop (cn := cn) (sn := sn) (k := k) (rows := rows) rows.length 0 y3 none [] (by omega)
    rw [← List.range_eq_range', List.drop_zero] at e2
    have f2 := for_of (it := iRange1 (aCons (dPrim pLen (aCons (dVar 2) aNil)) aNil)) (gt := gSet 3) (s := d2B) (rgN_of (n := rows.length) ln2 (by omega)) e2
    by_cases q : rows = []
    · have hf : fF rows.length rows 0 = none := by rw [q]; rfl
      rw [if_pos q]
      rw [hf] at f2
      have c3 : dBin (pEq false) (dVar 2) (dPrim pLst aNil) (N z3 z4) S' = some (.bl true, S') := by
        refine bin_of (x := .lst k (rows.map PRow.d)) (y := .lst .own []) rfl rfl ((eq_nil hk ?_ ?_ ?_).trans ?_)
        · rw [q]; rfl
        · rw [q]; decide
        · rw [q]; rfl
        · rw [q]; rfl
      exact pureOf_of (S' := S') (run_rt rfl ((seq_nx f1).trans ((seq_nx f2).trans (seq_rt ((ifS_t c3).trans (ret_of rfl)))))) rfl
    · rw [if_neg q]
      cases hf : fF rows.length rows 0 with
      | some j =>
        rw [hf] at f2
        exact pureOf_of (S' := S') (run_rt rfl ((seq_nx f1).trans (seq_rt f2))) rfl
      | none =>
        rw [hf] at f2
        have c3 : dBin (pEq false) (dVar 2) (dPrim pLst aNil) (N z3 z4) S' = some (.bl false, S') := by
          have dp := rows_deep rows
          refine bin_of (x := .lst k (rows.map PRow.d)) (y := .lst .own []) rfl rfl ((eq_nil hk (goodL_map hg) (by omega) (plainL_map fun _ _ => PRow.plain_d)).trans ?_)
          cases rows with
          | nil => exact absurd rfl q
          | cons r rs => rfl
        exact pureOf_of (S' := S') (run_rt rfl ((seq_nx f1).trans ((seq_nx f2).trans ((seq_nx ((ifS_f c3).trans rfl)).trans (ret_of rfl))))) rfl
end Lk14

namespace Lk14
open PySem PySem.Spec PyProof.Rows L2 Dn
/-! ### rows drawn -/
abbrev rG (r : PRow) : Prop := good r.d = true
abbrev aG (a : Atm) : Prop := good a.d = true
theorem g1 {k : Str} {a : DV} (hk : PyData.strOk k = true) (h : good a = true) : good (.tup [.str k, a]) = true := by show (PyData.strOk k && (good a && true)) = true; rw [hk, h]; rfl
theorem g2 {k : Str} {a b : DV} (hk : PyData.strOk k = true) (h : good a = true) (h2 : good b = true) : good (.tup [.str k, a, b]) = true := by show (PyData.strOk k && (good a && (good b && true))) = true; rw [hk, h, h2]; rfl
theorem g3 {k : Str} {a b c : DV} (hk : PyData.strOk k = true) (h : good a = true) (h2 : good b = true) (h3 : good c = true) : good (.tup [.str k, a, b, c]) = true := by show (PyData.strOk k && (good a && (good b && (good c && true)))) = true; rw [hk, h, h2, h3]; rfl
theorem g4 {k : Str} {a b c d : DV} (hk : PyData.strOk k = true) (h : good a = true) (h2 : good b = true) (h3 : good c = true) (h4 : good d = true) : good (.tup [.str k, a, b, c, d]) = true := by show (PyData.strOk k && (good a && (good b && (good c && (good d && true))))) = true; rw [hk, h, h2, h3, h4]; rfl
theorem h_row (c b : Int) (n m many : Nat) (hm : 0 < many) : ∃ r : PRow, rG r ∧ pureOf F_law_row [.int c, .int b, .lst .own [.int (n : Nat), .int (m : Nat)], .int (many : Nat)] = some r.d := by
  let L : DV := .lst .own [.int (n : Nat), .int (m : Nat)]
  let N (x4 x5 x6 x7 x8 x9 : Option DV) : List (Option DV) := [some (.int c), some (.int b), some L, some (.int (many : Nat)), x4, x5, x6, x7, x8, x9]
  let o : Option DV := none
  have p1 := w_pt_in (c := c) (j := 1) (m := 8) (by decide)
  have p2 := w_pt_in (c := c) (j := 2) (m := 10) (by decide)
  have p3 := w_pt_in (c := c) (j := 3) (m := 3) (by decide)
  have p0 := w_pt_in (c := c) (j := 0) (m := 14) (by decide)
  have p5 := w_pt_in (c := c) (j := 5) (m := 8) (by decide)
  have pg := w_pt_in (c := c) (j := 6) (m := (many : Int)) (by omega)
  let x : Str := w_nm b (10 + w_pt c 1 8).toNat
  let y : Str := w_nm b (8 + w_pt c 2 10).toNat
  let v : Int := c * 94906267 % 1099511627776
  have gx : good (.str x) = true := w_nm_ok b _
  have gy : good (.str y) = true := w_nm_ok b _
  let kd := w_pt c 0 14
  let j4 : Option DV := some (.str x)
  have l0 : ∀ {x4 x5 x6 x7 x8 x9 : Option DV} {S : Sto}, dBin pIx (dVar 2) (dC (.int 0)) (N x4 x5 x6 x7 x8 x9) S = some (.int (n : Nat), S) := fun {_ _ _ _ _ _ S} => bin_of (x := L) (y := .int 0) rfl rfl (ix_seq (atD_nat (k := 0) rfl))
  have l1 : ∀ {x4 x5 x6 x7 x8 x9 : Option DV} {S : Sto}, dBin pIx (dVar 2) (dC (.int 1)) (N x4 x5 x6 x7 x8 x9) S = some (.int (m : Nat), S) := fun {_ _ _ _ _ _ S} => bin_of (x := L) (y := .int 1) rfl rfl (ix_seq (atD_nat (k := 1) rfl))
  have s4 : dSet 4 (dPrim (cP (pureOf F_law_name) []) (aCons (dVar 1) (aCons (dBin pAdd (dC (.int 10)) (dPrim (cP (pureOf F_law_part) []) (aCons (dVar 0) (aCons (dC (.int 1)) (aCons (dC (.int 8)) aNil))))) aNil))) (N o o o o o o) ([] : Sto) = some (.nx (N j4 o o o o o) []) := set_of (a_name_of (b := b) rfl (addI_of (a := 10) rfl (w_part_of (c := c) (j := 1) (m := 8) rfl rfl rfl (by decide))) (by omega))
  have ix3 : ∀ {d0 d1 d2 : DV} {S : Sto} {z : Int}, 0 ≤ z → z < 3 → ∃ d, (d = d0 ∧ z = 0 ∨ d = d1 ∧ z = 1 ∨ d = d2 ∧ z = 2) ∧ pIx (.lst .own [d0, d1, d2]) (.int z) S = some (d, S) := fun {d0 d1 d2 S z} h0 h1 => by
    rcases (show z = 0 ∨ z = 1 ∨ z = 2 by omega) with h | h | h
    · exact ⟨d0, .inl ⟨rfl, h⟩, by rw [h]; exact ix_seq (atD_nat (k := 0) rfl)⟩
    · exact ⟨d1, .inr (.inl ⟨rfl, h⟩), by rw [h]; exact ix_seq (atD_nat (k := 1) rfl)⟩
    · exact ⟨d2, .inr (.inr ⟨rfl, h⟩), by rw [h]; exact ix_seq (atD_nat (k := 2) rfl)⟩
  have ix2 : ∀ {d0 d1 : DV} {S : Sto} {z : Int}, (z = 0 → pIx (.lst .own [d0, d1]) (.int z) S = some (d0, S)) ∧ (z = 1 → pIx (.lst .own [d0, d1]) (.int z) S = some (d1, S)) := fun {d0 d1 S z} => ⟨fun h => by rw [h]; exact ix_seq (atD_nat (k := 0) rfl), fun h => by rw [h]; exact ix_seq (atD_nat (k := 1) rfl)⟩
  obtain ⟨a, ga, s5⟩ : ∃ a : Atm, aG a ∧ dSet 5 (dBin pIx (dPrim pLst (aCons (dVar 4) (aCons (dPrim (cP (pureOf F_law_name) []) (aCons (dVar 1) (aCons (dBin pAdd (dC (.int 8)) (dPrim (cP (pureOf F_law_part) []) (aCons (dVar 0) (aCons (dC (.int 2)) (aCons (dC (.int 10)) aNil))))) aNil))) (aCons (dBin pMod (dBin pMul (dVar 0) (dC (.int 94906267))) (dBin pPow (dC (.int 2)) (dC (.int 40)))) aNil)))) (dPrim (cP (pureOf F_law_part) []) (aCons (dVar 0) (aCons (dC (.int 3)) (aCons (dC (.int 3)) aNil))))) (N j4 o o o o o) ([] : Sto) = some (.nx (N j4 (some a.d) o o o o) []) := by
    have el : dPrim pLst (aCons (dVar 4) (aCons (dPrim (cP (pureOf F_law_name) []) (aCons (dVar 1) (aCons (dBin pAdd (dC (.int 8)) (dPrim (cP (pureOf F_law_part) []) (aCons (dVar 0) (aCons (dC (.int 2)) (aCons (dC (.int 10)) aNil))))) aNil))) (aCons (dBin pMod (dBin pMul (dVar 0) (dC (.int 94906267))) (dBin pPow (dC (.int 2)) (dC (.int 40)))) aNil))) (N j4 o o o o o) ([] : Sto) = some (.lst .own [.str x, .str y, .int v], []) :=
      prim_of (args3 (x := .str x) rfl (a_name_of (b := b) rfl (addI_of (a := 8) rfl (w_part_of (c := c) (j := 2) (m := 10) rfl rfl rfl (by decide))) (by omega)) (modI_of (b := 1099511627776) (bin_of (x := .int c) (y := .int 94906267) rfl rfl (v_mulI (by decide))) (bin_of (x := .int 2) (y := .int 40) rfl rfl a_p40) (by decide))) rfl
    have pp := w_part_of (f := dVar 0) (g := dC (.int 3)) (e := dC (.int 3)) (ρ := N j4 o o o o o) (S := []) (c := c) (j := 3) (m := 3) rfl rfl rfl (by decide)
    obtain ⟨d, hd, e⟩ := ix3 (d0 := .str x) (d1 := .str y) (d2 := .int v) (S := []) p3.1 p3.2
    rcases hd with ⟨rfl, _⟩ | ⟨rfl, _⟩ | ⟨rfl, _⟩
    · exact ⟨.x x, gx, set_of (bin_of el pp e)⟩
    · exact ⟨.x y, gy, set_of (bin_of el pp e)⟩
    · exact ⟨.n v, rfl, set_of (bin_of el pp e)⟩
  let j5 : Option DV := some a.d
  let j6 : Option DV := some (.int kd)
  have s6 : dSet 6 (dPrim (cP (pureOf F_law_part) []) (aCons (dVar 0) (aCons (dC (.int 0)) (aCons (dC (.int 14)) aNil)))) (N j4 j5 o o o o) ([] : Sto) = some (.nx (N j4 j5 j6 o o o) []) := set_of (w_part_of (c := c) (j := 0) (m := 14) rfl rfl rfl (by decide))
  let ρ := N j4 j5 j6 o o o
  have cl : ∀ k : Int, dBin pLt (dVar 6) (dC (.int k)) ρ ([] : Sto) = some (.bl (decide (kd < k)), []) := fun k => bin_of (x := .int kd) (y := .int k) rfl rfl Dn.v_lt
  have md : ∀ {x7 x8 x9 : Option DV}, dBin pMod (dVar 6) (dC (.int 2)) (N j4 j5 j6 x7 x8 x9) ([] : Sto) = some (.int (kd % 2), []) := fun {x7 x8 x9} => modI_of (a := kd) (b := 2) rfl rfl (by decide)
  have m2 : kd % 2 = 0 ∨ kd % 2 = 1 := by omega
  have fin : ∀ {r : PRow}, b_law_row (N o o o o o o) [] = some (.rt r.d []) → pureOf F_law_row [.int c, .int b, L, .int (many : Nat)] = some r.d := fun {r} h => pureOf_of (S' := []) (run_rt rfl h) PRow.plain_d
  have it : ∀ {k : Str} {ds : List DV} {fa : DA} {ρ : Ev}, fa ρ ([] : Sto) = some (ds, []) → (hz : ds.length ≤ 10 := by simp) → dPrim pTup (aCons (dC (.str k)) fa) ρ ([] : Sto) = some (.tup (.str k :: ds), []) := fun {k ds fa ρ} h hz => prim_of (argsC rfl h) (by rw [v_pTup, if_pos (size_ok (by simp; omega))])
  have c1 : dAnd (dBin pLt (dVar 6) (dC (.int 4))) (dBin pGt (dBin pIx (dVar 2) (dC (.int 0))) (dC (.int 0))) ρ ([] : Sto) = some (.bl (decide (kd < 4) && decide ((0 : Int) < (n : Nat))), []) := and_b (cl 4) (bin_of l0 (y := .int 0) rfl Dn.v_gt)
  have c2 : dAnd (dBin pLt (dVar 6) (dC (.int 8))) (dBin pGt (dBin pIx (dVar 2) (dC (.int 1))) (dC (.int 0))) ρ ([] : Sto) = some (.bl (decide (kd < 8) && decide ((0 : Int) < (m : Nat))), []) := and_b (cl 8) (bin_of l1 (y := .int 0) rfl Dn.v_gt)
  have st : ∀ {t : DS} {r : Option Out}, b_law_row = dSeq (dSet 4 (dPrim (cP (pureOf F_law_name) []) (aCons (dVar 1) (aCons (dBin pAdd (dC (.int 10)) (dPrim (cP (pureOf F_law_part) []) (aCons (dVar 0) (aCons (dC (.int 1)) (aCons (dC (.int 8)) aNil))))) aNil))))
      (dSeq (dSet 5 (dBin pIx (dPrim pLst (aCons (dVar 4) (aCons (dPrim (cP (pureOf F_law_name) []) (aCons (dVar 1) (aCons (dBin pAdd (dC (.int 8)) (dPrim (cP (pureOf F_law_part) []) (aCons (dVar 0) (aCons (dC (.int 2)) (aCons (dC (.int 10)) aNil))))) aNil))) (aCons (dBin pMod (dBin pMul (dVar 0) (dC (.int 94906267))) (dBin pPow (dC (.int 2)) (dC (.int 40)))) aNil)))) (dPrim (cP (pureOf F_law_part) []) (aCons (dVar 0) (aCons (dC (.int 3)) (aCons (dC (.int 3)) aNil))))))
      (dSeq (dSet 6 (dPrim (cP (pureOf F_law_part) []) (aCons (dVar 0) (aCons (dC (.int 0)) (aCons (dC (.int 14)) aNil))))) t)) → t ρ [] = r → b_law_row (N o o o o o o) [] = r := fun {t r} hb ht => by
    rw [hb]
    exact (seq_nx s4).trans ((seq_nx s5).trans ((seq_nx s6).trans ht))
  have no : ∀ {cnd : DE} {f t : DS} {r : Option Out}, cnd ρ ([] : Sto) = some (.bl false, []) → t ρ ([] : Sto) = r → dSeq (dIfS cnd f dNext) t ρ ([] : Sto) = r := fun {cnd f t r} h ht => (seq_nx ((ifS_f h).trans rfl)).trans ht
  by_cases k1 : (decide (kd < 4) && decide ((0 : Int) < (n : Nat))) = true
  · rw [k1] at c1
    rw [Bool.and_eq_true] at k1
    have n0 := of_decide_eq_true k1.2
    have p4 := w_pt_in (c := c) (j := 4) (m := (n : Int)) n0
    let z : Str := w_nm b (w_pt c 4 (n : Int)).toNat
    have gz : good (.str z) = true := w_nm_ok b _
    have s7 : dSet 7 (dPrim (cP (pureOf F_law_name) []) (aCons (dVar 1) (aCons (dPrim (cP (pureOf F_law_part) []) (aCons (dVar 0) (aCons (dC (.int 4)) (aCons (dBin pIx (dVar 2) (dC (.int 0))) aNil)))) aNil))) ρ ([] : Sto) = some (.nx (N j4 j5 j6 (some (.str z)) o o) []) := set_of (a_name_of (b := b) rfl (w_part_of (c := c) (j := 4) (m := (n : Int)) rfl rfl l0 n0) p4.1)
    have el : dPrim pLst (aCons (dPrim pTup (aCons (dC (.str "load")) (aCons (dVar 4) (aCons (dVar 7) aNil)))) (aCons (dPrim pTup (aCons (dC (.str "store")) (aCons (dVar 7) (aCons (dVar 5) aNil)))) aNil)) (N j4 j5 j6 (some (.str z)) o o) ([] : Sto) = some (.lst .own [(PRow.load x z).d, (PRow.store z a).d], []) := prim_of (args2 (it (args2 rfl rfl)) (it (args2 rfl rfl))) rfl
    rcases m2 with h | h
    · exact ⟨.load x z, g2 (by decide +kernel) gx gz, fin (st rfl (seq_rt ((ifS_t c1).trans ((seq_nx s7).trans (ret_of (bin_of el md (ix2.1 h)))))))⟩
    · exact ⟨.store z a, g2 (by decide +kernel) gz ga, fin (st rfl (seq_rt ((ifS_t c1).trans ((seq_nx s7).trans (ret_of (bin_of el md (ix2.2 h)))))))⟩
  rw [Bool.eq_false_iff.mpr k1] at c1
  by_cases k2 : (decide (kd < 8) && decide ((0 : Int) < (m : Nat))) = true
  · rw [k2] at c2
    rw [Bool.and_eq_true] at k2
    have n0 := of_decide_eq_true k2.2
    have p4 := w_pt_in (c := c) (j := 4) (m := (m : Int)) n0
    let z : Str := w_nm b (6 + w_pt c 4 (m : Int)).toNat
    have gz : good (.str z) = true := w_nm_ok b _
    have s8 : dSet 8 (dPrim (cP (pureOf F_law_name) []) (aCons (dVar 1) (aCons (dBin pAdd (dC (.int 6)) (dPrim (cP (pureOf F_law_part) []) (aCons (dVar 0) (aCons (dC (.int 4)) (aCons (dBin pIx (dVar 2) (dC (.int 1))) aNil))))) aNil))) ρ ([] : Sto) = some (.nx (N j4 j5 j6 o (some (.str z)) o) []) := set_of (a_name_of (b := b) rfl (addI_of (a := 6) rfl (w_part_of (c := c) (j := 4) (m := (m : Int)) rfl rfl l1 n0)) (by omega))
    have el : dPrim pLst (aCons (dPrim pTup (aCons (dC (.str "take")) (aCons (dVar 4) (aCons (dVar 8) (aCons (dVar 5) aNil))))) (aCons (dPrim pTup (aCons (dC (.str "lay")) (aCons (dVar 8) (aCons (dVar 5) (aCons (dC (.int 7)) aNil))))) aNil)) (N j4 j5 j6 o (some (.str z)) o) ([] : Sto) = some (.lst .own [(PRow.take x z a).d, (PRow.lay z a (.n 7)).d], []) := prim_of (args2 (it (args3 rfl rfl rfl)) (it (args3 rfl rfl rfl))) rfl
    rcases m2 with h | h
    · exact ⟨.take x z a, g3 (by decide +kernel) gx gz ga, fin (st rfl (no c1 (seq_rt ((ifS_t c2).trans ((seq_nx s8).trans (ret_of (bin_of el md (ix2.1 h))))))))⟩
    · exact ⟨.lay z a (.n 7), g3 (by decide +kernel) gz ga rfl, fin (st rfl (no c1 (seq_rt ((ifS_t c2).trans ((seq_nx s8).trans (ret_of (bin_of el md (ix2.2 h))))))))⟩
  rw [Bool.eq_false_iff.mpr k2] at c2
  have c3 := cl 9
  by_cases k3 : kd < 9
  · rw [decide_eq_true k3] at c3
    have sg : ∃ g : Str, PyData.strOk g = true ∧ pIx (.str "+-*<=&|^") (.int (w_pt c 5 8)) ([] : Sto) = some (.str g, []) := by
      have h : ∀ i : Nat, i < 8 → ∃ g ∈ (["+", "-", "*", "<", "=", "&", "|", "^"] : List Str), (atI ("+-*<=&|^" : Str).cps.toList (i : Int) = some ((g.cps.toList).headD 0) ∧ g = ⟨#[(g.cps.toList).headD 0]⟩) ∧ PyData.strOk g = true := by decide +kernel
      obtain ⟨g, h1, ⟨h2, h3⟩, h4⟩ := h (w_pt c 5 8).toNat (by omega)
      rw [Int.toNat_of_nonneg p5.1] at h2
      exact ⟨g, h4, (Dn.ix_str (by decide +kernel) h2).trans (by rw [← h3])⟩
    obtain ⟨g, hg, eg⟩ := sg
    exact ⟨.op x g a (.n 5), g4 (by decide +kernel) gx hg ga rfl, fin (st rfl (no c1 (no c2 (seq_rt ((ifS_t c3).trans (ret_of (it (argsC rfl (argsC (bin_of (x := .str "+-*<=&|^") rfl (w_part_of (c := c) (j := 5) (m := 8) rfl rfl rfl (by decide)) eg) (args2 rfl rfl))))))))))⟩
  rw [decide_eq_false k3] at c3
  have c4 : dBin pGt (dVar 6) (dC (.int 11)) ρ ([] : Sto) = some (.bl (decide (11 < kd)), []) := bin_of (x := .int kd) (y := .int 11) rfl rfl Dn.v_gt
  by_cases k4 : 11 < kd
  · rw [decide_eq_true k4] at c4
    obtain ⟨g, hg⟩ : ∃ g : Nat, w_pt c 6 (many : Int) = (g : Nat) := ⟨_, (Int.toNat_of_nonneg pg.1).symm⟩
    have s9 : dSet 9 (dPrim (cP (pureOf F_law_part) []) (aCons (dVar 0) (aCons (dC (.int 6)) (aCons (dVar 3) aNil)))) ρ ([] : Sto) = some (.nx (N j4 j5 j6 o o (some (.int (g : Nat)))) []) := by
      have := w_part_of (f := dVar 0) (g := dC (.int 6)) (e := dVar 3) (ρ := ρ) (S := []) (c := c) (j := 6) (m := (many : Int)) rfl rfl rfl (by omega)
      rw [hg] at this
      exact set_of this
    have el : dPrim pLst (aCons (dPrim pTup (aCons (dC (.str "if")) (aCons (dVar 5) (aCons (dVar 9) aNil)))) (aCons (dPrim pTup (aCons (dC (.str "go")) (aCons (dVar 9) aNil))) aNil)) (N j4 j5 j6 o o (some (.int (g : Nat)))) ([] : Sto) = some (.lst .own [(PRow.ifr a g).d, (PRow.go g).d], []) := prim_of (args2 (it (args2 rfl rfl)) (it (args1 rfl))) rfl
    have sub : dBin pSub (dVar 6) (dC (.int 12)) (N j4 j5 j6 o o (some (.int (g : Nat)))) ([] : Sto) = some (.int (kd - 12), []) := subI_of (a := kd) (b := 12) rfl rfl
    rcases (show kd - 12 = 0 ∨ kd - 12 = 1 by omega) with h | h
    · exact ⟨.ifr a g, g2 (by decide +kernel) ga rfl, fin (st rfl (no c1 (no c2 (no c3 (seq_rt ((ifS_t c4).trans ((seq_nx s9).trans (ret_of (bin_of el sub (ix2.1 h))))))))))⟩
    · exact ⟨.go g, g1 (by decide +kernel) rfl, fin (st rfl (no c1 (no c2 (no c3 (seq_rt ((ifS_t c4).trans ((seq_nx s9).trans (ret_of (bin_of el sub (ix2.2 h))))))))))⟩
  rw [decide_eq_false k4] at c4
  have el : dPrim pLst (aCons (dPrim pTup (aCons (dC (.str "copy")) (aCons (dVar 4) (aCons (dVar 5) aNil)))) (aCons (dPrim pTup (aCons (dC (.str "hear")) (aCons (dVar 4) aNil))) (aCons (dPrim pTup (aCons (dC (.str "say")) (aCons (dVar 5) aNil))) aNil))) ρ ([] : Sto) = some (.lst .own [(PRow.copy x a).d, (PRow.hear x).d, (PRow.say a).d], []) := prim_of (args3 (it (args2 rfl rfl)) (it (args1 rfl)) (it (args1 rfl))) rfl
  have sub : dBin pSub (dVar 6) (dC (.int 9)) ρ ([] : Sto) = some (.int (kd - 9), []) := subI_of (a := kd) (b := 9) rfl rfl
  obtain ⟨d, hd, e⟩ := ix3 (d0 := (PRow.copy x a).d) (d1 := (PRow.hear x).d) (d2 := (PRow.say a).d) (S := []) (z := kd - 9) (by omega) (by omega)
  rcases hd with ⟨rfl, _⟩ | ⟨rfl, _⟩ | ⟨rfl, _⟩
  · exact ⟨.copy x a, g2 (by decide +kernel) gx ga, fin (st rfl (no c1 (no c2 (no c3 (no c4 (ret_of (bin_of el sub e)))))))⟩
  · exact ⟨.hear x, g1 (by decide +kernel) gx, fin (st rfl (no c1 (no c2 (no c3 (no c4 (ret_of (bin_of el sub e)))))))⟩
  · exact ⟨.say a, g1 (by decide +kernel) ga, fin (st rfl (no c1 (no c2 (no c3 (no c4 (ret_of (bin_of el sub e)))))))⟩
end Lk14

namespace Lk14
open PySem PySem.Spec PyProof.Rows L2 Dn
/-! ### rows spoilt -/
theorem cut_rows {rows : List PRow} {a b : Option Int} : ∃ m : List PRow, Dn.cutD (rows.map PRow.d) a b = m.map PRow.d ∧ (∀ x ∈ m, x ∈ rows) ∧ m.length ≤ rows.length := by
  refine ⟨(rows.drop (HT.sIx (rows.map PRow.d).length 0 a)).take (HT.sIx (rows.map PRow.d).length (rows.map PRow.d).length b - HT.sIx (rows.map PRow.d).length 0 a), ?_, fun x h => List.mem_of_mem_drop (List.mem_of_mem_take h), ?_⟩
  · unfold Dn.cutD
    rw [List.map_take, List.map_drop]
  · rw [List.length_take, List.length_drop]; omega
theorem sl_lst {k : LK} {f : DE} {lo hi : Ev → Sto → Option (Option Int × Sto)} {ρ : Ev} {S : Sto} {xs : List DV} {a b : Option Int} (h1 : f ρ S = some (.lst k xs, S)) (h2 : lo ρ S = some (a, S)) (h3 : hi ρ S = some (b, S)) : dSl pSl f lo hi ρ S = some (.lst .own (Dn.cutD xs a b), S) := by
  unfold dSl
  rw [h1]
  dsimp only
  rw [h2]
  dsimp only
  rw [h3]
  cases k <;> rfl
theorem some_of {e : DE} {ρ : Ev} {S : Sto} {i : Int} (h : e ρ S = some (.int i, S)) : oSome e ρ S = some (some i, S) := by
  unfold oSome
  rw [h]
theorem add_rows {f g : DE} {ρ : Ev} {S S1 S2 : Sto} {xs ys : List DV} (h1 : f ρ S = some (.lst .own xs, S1)) (h2 : g ρ S1 = some (.lst .own ys, S2)) (hz : xs.length + ys.length ≤ 10000) : dBin pAdd f g ρ S = some (.lst .own (xs ++ ys), S2) := by
  refine bin_of h1 h2 ?_
  rw [v_addL, if_pos (size_ok (by omega))]
theorem h_spoilt (k : LK) (hk : k ≠ .ext) (rows : List PRow) (hr : ∀ r ∈ rows, rG r) (hl : rows.length ≤ 1000) (h0 : k = .own ∨ rows ≠ []) (L : DV) (pL : plain L = true) (b c : Int) :
    ∃ rows' : List PRow, (∀ r ∈ rows', rG r) ∧ rows'.length ≤ 2 * rows.length + 1 ∧ pureOf F_law_spoilt [.lst k (rows.map PRow.d), L, .int b, .int c] = some (.lst .own (rows'.map PRow.d)) := by
  let R : DV := .lst k (rows.map PRow.d)
  let N (x4 x5 x6 x7 x8 x9 x10 : Option DV) : List (Option DV) := [some R, some L, some (.int b), some (.int c), x4, x5, x6, x7, x8, x9, x10]
  let o : Option DV := none
  have dp := rows_deep rows
  have pr : ∀ l : List PRow, plainL (l.map PRow.d) = true := fun l => plainL_map fun _ _ => PRow.plain_d
  have c0 : dBin (pEq false) (dVar 0) (dPrim pLst aNil) (N o o o o o o o) ([] : Sto) = some (.bl (rows.map PRow.d).isEmpty, []) := bin_of (x := R) (y := .lst .own []) rfl rfl (eq_nil hk (goodL_map hr) (by omega) (pr rows))
  have fin : ∀ {l : List PRow}, b_law_spoilt (N o o o o o o o) [] = some (.rt (.lst .own (l.map PRow.d)) []) → pureOf F_law_spoilt [R, L, .int b, .int c] = some (.lst .own (l.map PRow.d)) := fun {l} h => pureOf_of (S' := []) (run_rt rfl h) (by rw [plain_own]; exact pr l)
  by_cases q : rows = []
  · have hk2 : k = .own := h0.resolve_right fun z => z q
    subst hk2
    rw [q] at c0
    exact ⟨[], fun _ h => absurd h List.not_mem_nil, Nat.zero_le _, fin (l := []) (seq_rt ((ifS_t c0).trans (ret_of (by show some (R, ([] : Sto)) = _; simp only [R, q]))))⟩
  have l0 : 0 < rows.length := List.length_pos_iff.mpr q
  have c0' : dBin (pEq false) (dVar 0) (dPrim pLst aNil) (N o o o o o o o) ([] : Sto) = some (.bl false, []) := c0.trans (by
    cases rows with
    | nil => exact absurd rfl q
    | cons r rs => rfl)
  have ln : ∀ {x4 x5 x6 x7 x8 x9 x10 : Option DV}, dPrim pLen (aCons (dVar 0) aNil) (N x4 x5 x6 x7 x8 x9 x10) ([] : Sto) = some (.int (rows.length : Nat), []) := fun {x4 x5 x6 x7 x8 x9 x10} => by
    have := lenL_of (f := dVar 0) (ρ := N x4 x5 x6 x7 x8 x9 x10) (S := []) (k := k) (xs := rows.map PRow.d) rfl
    rw [List.length_map] at this
    exact this
  have p0 := w_pt_in (c := c) (j := 0) (m := (rows.length : Int)) (by omega)
  have p1 := w_pt_in (c := c) (j := 1) (m := 8) (by decide)
  have p2 := w_pt_in (c := c) (j := 2) (m := 16) (by decide)
  have p2b := w_pt_in (c := c) (j := 2) (m := 10) (by decide)
  have p3 := w_pt_in (c := c) (j := 3) (m := 2) (by decide)
  have p4 := w_pt_in (c := c) (j := 4) (m := 70) (by decide)
  have p5 := w_pt_in (c := c) (j := 5) (m := (rows.length : Int)) (by omega)
  have p6 := w_pt_in (c := c) (j := 6) (m := 4) (by decide)
  let at_ : Int := w_pt c 0 (rows.length : Int)
  let way : Int := w_pt c 1 8
  let j4 : Option DV := some (.int at_)
  let j5 : Option DV := some (.int way)
  let w1 : Str := w_nm b (10 + w_pt c 2 16).toNat
  let w2 : Str := w_nm b (w_pt c 2 10).toNat
  let j6 : Option DV := some (.lst .own [.str w1, .str w2])
  have s4 : dSet 4 (dPrim (cP (pureOf F_law_part) []) (aCons (dVar 3) (aCons (dC (.int 0)) (aCons (dPrim pLen (aCons (dVar 0) aNil)) aNil)))) (N o o o o o o o) ([] : Sto) = some (.nx (N j4 o o o o o o) []) := set_of (w_part_of (c := c) (j := 0) (m := (rows.length : Int)) rfl rfl ln (by omega))
  have s5 : dSet 5 (dPrim (cP (pureOf F_law_part) []) (aCons (dVar 3) (aCons (dC (.int 1)) (aCons (dC (.int 8)) aNil)))) (N j4 o o o o o o) ([] : Sto) = some (.nx (N j4 j5 o o o o o) []) := set_of (w_part_of (c := c) (j := 1) (m := 8) rfl rfl rfl (by decide))
  have s6 : dSet 6 (dPrim pLst (aCons (dPrim (cP (pureOf F_law_name) []) (aCons (dVar 2) (aCons (dBin pAdd (dC (.int 10)) (dPrim (cP (pureOf F_law_part) []) (aCons (dVar 3) (aCons (dC (.int 2)) (aCons (dC (.int 16)) aNil))))) aNil))) (aCons (dPrim (cP (pureOf F_law_name) []) (aCons (dVar 2) (aCons (dPrim (cP (pureOf F_law_part) []) (aCons (dVar 3) (aCons (dC (.int 2)) (aCons (dC (.int 10)) aNil)))) aNil))) aNil))) (N j4 j5 o o o o o) ([] : Sto) = some (.nx (N j4 j5 j6 o o o o) []) :=
    set_of (prim_of (args2 (a_name_of (b := b) rfl (addI_of (a := 10) rfl (w_part_of (c := c) (j := 2) (m := 16) rfl rfl rfl (by decide))) (by omega)) (a_name_of (b := b) rfl (w_part_of (c := c) (j := 2) (m := 10) rfl rfl rfl (by decide)) p2b.1)) rfl)
  obtain ⟨wd, gw, s7⟩ : ∃ wd : Str, good (.str wd) = true ∧ dSet 7 (dBin pIx (dVar 6) (dPrim (cP (pureOf F_law_part) []) (aCons (dVar 3) (aCons (dC (.int 3)) (aCons (dC (.int 2)) aNil))))) (N j4 j5 j6 o o o o) ([] : Sto) = some (.nx (N j4 j5 j6 (some (.str wd)) o o o) []) := by
    have pp := w_part_of (f := dVar 3) (g := dC (.int 3)) (e := dC (.int 2)) (ρ := N j4 j5 j6 o o o o) (S := []) (c := c) (j := 3) (m := 2) rfl rfl rfl (by decide)
    rcases (show w_pt c 3 2 = 0 ∨ w_pt c 3 2 = 1 by omega) with h | h
    · exact ⟨w1, w_nm_ok b _, set_of (bin_of (x := .lst .own [.str w1, .str w2]) rfl pp (by rw [h]; exact ix_seq (atD_nat (k := 0) rfl)))⟩
    · exact ⟨w2, w_nm_ok b _, set_of (bin_of (x := .lst .own [.str w1, .str w2]) rfl pp (by rw [h]; exact ix_seq (atD_nat (k := 1) rfl)))⟩
  let j7 : Option DV := some (.str wd)
  obtain ⟨far, hf⟩ : ∃ far : Nat, (far : Int) = (rows.length : Int) + w_pt c 4 70 := ⟨((rows.length : Int) + w_pt c 4 70).toNat, by omega⟩
  let j8 : Option DV := some (.int (far : Nat))
  have s8 : dSet 8 (dBin pAdd (dPrim pLen (aCons (dVar 0) aNil)) (dPrim (cP (pureOf F_law_part) []) (aCons (dVar 3) (aCons (dC (.int 4)) (aCons (dC (.int 70)) aNil))))) (N j4 j5 j6 j7 o o o) ([] : Sto) = some (.nx (N j4 j5 j6 j7 j8 o o) []) := by
    have : dBin pAdd (dPrim pLen (aCons (dVar 0) aNil)) (dPrim (cP (pureOf F_law_part) []) (aCons (dVar 3) (aCons (dC (.int 4)) (aCons (dC (.int 70)) aNil)))) (N j4 j5 j6 j7 o o o) ([] : Sto) = some (.int (far : Nat), []) := by
      rw [hf]
      exact addI_of ln (w_part_of (c := c) (j := 4) (m := 70) rfl rfl rfl (by decide))
    exact set_of this
  let A : List PRow := [.load "x" wd, .store wd (.n 5), .take "y" wd (.n 0), .lay wd (.n 1) (.n 2)]
  let B : List PRow := A ++ [.ifr (.n 1) far, .go far]
  have gA : ∀ r ∈ B, rG r := fun r hr => by
    have : r = .load "x" wd ∨ r = .store wd (.n 5) ∨ r = .take "y" wd (.n 0) ∨ r = .lay wd (.n 1) (.n 2) ∨ r = .ifr (.n 1) far ∨ r = .go far := by simpa [B, A] using hr
    rcases this with h | h | h | h | h | h <;> rw [h]
    · exact g2 (by decide +kernel) (by decide +kernel) gw
    · exact g2 (by decide +kernel) gw rfl
    · exact g3 (by decide +kernel) (by decide +kernel) gw rfl
    · exact g3 (by decide +kernel) gw rfl rfl
    · exact g2 (by decide +kernel) rfl rfl
    · exact g1 (by decide +kernel) rfl
  let j9a : Option DV := some (.lst .own (A.map PRow.d))
  let j9 : Option DV := some (.lst .own (B.map PRow.d))
  have s9a : dSet 9 (dPrim pLst (aCons (dPrim pTup (aCons (dC (.str "load")) (aCons (dC (.str "x")) (aCons (dVar 7) aNil)))) (aCons (dPrim pTup (aCons (dC (.str "store")) (aCons (dVar 7) (aCons (dC (.int 5)) aNil)))) (aCons (dPrim pTup (aCons (dC (.str "take")) (aCons (dC (.str "y")) (aCons (dVar 7) (aCons (dC (.int 0)) aNil))))) (aCons (dPrim pTup (aCons (dC (.str "lay")) (aCons (dVar 7) (aCons (dC (.int 1)) (aCons (dC (.int 2)) aNil))))) aNil))))) (N j4 j5 j6 j7 j8 o o) ([] : Sto) = some (.nx (N j4 j5 j6 j7 j8 j9a o) []) := rfl
  have s9 : dSet 9 (dBin pAdd (dVar 9) (dPrim pLst (aCons (dPrim pTup (aCons (dC (.str "if")) (aCons (dC (.int 1)) (aCons (dVar 8) aNil)))) (aCons (dPrim pTup (aCons (dC (.str "go")) (aCons (dVar 8) aNil))) aNil)))) (N j4 j5 j6 j7 j8 j9a o) ([] : Sto) = some (.nx (N j4 j5 j6 j7 j8 j9 o) []) := rfl
  let ρ := N j4 j5 j6 j7 j8 j9 o
  have c10 : dBin (pEq false) (dVar 5) (dC (.int 6)) ρ ([] : Sto) = some (.bl (decide (way = 6)), []) := bin_of (x := .int way) (y := .int 6) rfl rfl v_eqI
  have c11 : dBin (pEq false) (dVar 5) (dC (.int 7)) ρ ([] : Sto) = some (.bl (decide (way = 7)), []) := bin_of (x := .int way) (y := .int 7) rfl rfl v_eqI
  have front : ∀ {r : Option Out}, dSeq (dIfS (dBin (pEq false) (dVar 5) (dC (.int 6))) (dSeq (dSet 10 (dPrim (cP (pureOf F_law_part) []) (aCons (dVar 3) (aCons (dC (.int 5)) (aCons (dPrim pLen (aCons (dVar 0) aNil)) aNil)))))
      (dRet (dBin pAdd (dSl pSl (dVar 0) oNone (oSome (dUn pNeg (dC (.int 1))))) (dPrim pLst (aCons (dBin pIx (dPrim pLst (aCons (dPrim pTup (aCons (dC (.str "say")) (aCons (dC (.int 7)) aNil))) (aCons (dPrim pTup (aCons (dC (.str "if")) (aCons (dC (.int 7)) (aCons (dVar 10) aNil)))) (aCons (dPrim pTup (aCons (dC (.str "go")) (aCons (dVar 10) aNil))) (aCons (dPrim pTup (aCons (dC (.str "if")) (aCons (dC (.str "x")) (aCons (dVar 10) aNil)))) aNil))))) (dPrim (cP (pureOf F_law_part) []) (aCons (dVar 3) (aCons (dC (.int 6)) (aCons (dC (.int 4)) aNil))))) aNil))))) dNext)
      (dSeq (dIfS (dBin (pEq false) (dVar 5) (dC (.int 7))) (dRet (dPrim pLst aNil)) dNext)
      (dRet (dBin pAdd (dBin pAdd (dSl pSl (dVar 0) oNone (oSome (dVar 4))) (dPrim pLst (aCons (dBin pIx (dVar 9) (dVar 5)) aNil))) (dSl pSl (dVar 0) (oSome (dBin pAdd (dVar 4) (dC (.int 1)))) oNone)))) ρ [] = r → b_law_spoilt (N o o o o o o o) [] = r := fun {r} h =>
    (seq_nx ((ifS_f c0').trans rfl)).trans ((seq_nx s4).trans ((seq_nx s5).trans ((seq_nx s6).trans ((seq_nx s7).trans ((seq_nx s8).trans ((seq_nx s9a).trans ((seq_nx s9).trans h)))))))
  by_cases h6 : way = 6
  · rw [decide_eq_true h6] at c10
    obtain ⟨g, hg⟩ : ∃ g : Nat, w_pt c 5 (rows.length : Int) = (g : Nat) := ⟨_, (Int.toNat_of_nonneg p5.1).symm⟩
    let ρ10 := N j4 j5 j6 j7 j8 j9 (some (.int (g : Nat)))
    have s10 : dSet 10 (dPrim (cP (pureOf F_law_part) []) (aCons (dVar 3) (aCons (dC (.int 5)) (aCons (dPrim pLen (aCons (dVar 0) aNil)) aNil)))) ρ ([] : Sto) = some (.nx ρ10 []) := by
      have := w_part_of (f := dVar 3) (g := dC (.int 5)) (e := dPrim pLen (aCons (dVar 0) aNil)) (ρ := ρ) (S := []) (c := c) (j := 5) (m := (rows.length : Int)) rfl rfl ln (by omega)
      rw [hg] at this
      exact set_of this
    obtain ⟨m, em, hm, lm⟩ := cut_rows (rows := rows) (a := none) (b := some (-1))
    have sl : dSl pSl (dVar 0) oNone (oSome (dUn pNeg (dC (.int 1)))) ρ10 ([] : Sto) = some (.lst .own (m.map PRow.d), []) := by
      rw [← em]
      exact sl_lst (k := k) rfl rfl rfl
    obtain ⟨r, gr, er⟩ : ∃ r : PRow, rG r ∧ dBin pIx (dPrim pLst (aCons (dPrim pTup (aCons (dC (.str "say")) (aCons (dC (.int 7)) aNil))) (aCons (dPrim pTup (aCons (dC (.str "if")) (aCons (dC (.int 7)) (aCons (dVar 10) aNil)))) (aCons (dPrim pTup (aCons (dC (.str "go")) (aCons (dVar 10) aNil))) (aCons (dPrim pTup (aCons (dC (.str "if")) (aCons (dC (.str "x")) (aCons (dVar 10) aNil)))) aNil))))) (dPrim (cP (pureOf F_law_part) []) (aCons (dVar 3) (aCons (dC (.int 6)) (aCons (dC (.int 4)) aNil)))) ρ10 ([] : Sto) = some (r.d, []) := by
      have el : dPrim pLst (aCons (dPrim pTup (aCons (dC (.str "say")) (aCons (dC (.int 7)) aNil))) (aCons (dPrim pTup (aCons (dC (.str "if")) (aCons (dC (.int 7)) (aCons (dVar 10) aNil)))) (aCons (dPrim pTup (aCons (dC (.str "go")) (aCons (dVar 10) aNil))) (aCons (dPrim pTup (aCons (dC (.str "if")) (aCons (dC (.str "x")) (aCons (dVar 10) aNil)))) aNil)))) ρ10 ([] : Sto) = some (.lst .own [(PRow.say (.n 7)).d, (PRow.ifr (.n 7) g).d, (PRow.go g).d, (PRow.ifr (.x "x") g).d], []) := rfl
      have pp := w_part_of (f := dVar 3) (g := dC (.int 6)) (e := dC (.int 4)) (ρ := ρ10) (S := []) (c := c) (j := 6) (m := 4) rfl rfl rfl (by decide)
      rcases (show w_pt c 6 4 = 0 ∨ w_pt c 6 4 = 1 ∨ w_pt c 6 4 = 2 ∨ w_pt c 6 4 = 3 by omega) with h | h | h | h
      · exact ⟨.say (.n 7), g1 (by decide +kernel) rfl, bin_of el pp (by rw [h]; exact ix_seq (atD_nat (k := 0) rfl))⟩
      · exact ⟨.ifr (.n 7) g, g2 (by decide +kernel) rfl rfl, bin_of el pp (by rw [h]; exact ix_seq (atD_nat (k := 1) rfl))⟩
      · exact ⟨.go g, g1 (by decide +kernel) rfl, bin_of el pp (by rw [h]; exact ix_seq (atD_nat (k := 2) rfl))⟩
      · exact ⟨.ifr (.x "x") g, g2 (by decide +kernel) (by decide +kernel) rfl, bin_of el pp (by rw [h]; exact ix_seq (atD_nat (k := 3) rfl))⟩
    refine ⟨m ++ [r], fun x hx => ?_, by rw [List.length_append, List.length_singleton]; omega, fin (front (seq_rt ((ifS_t c10).trans ((seq_nx s10).trans (ret_of ?_)))))⟩
    · rcases List.mem_append.mp hx with z | z
      · exact hr x (hm x z)
      · rw [List.mem_singleton.mp z]; exact gr
    · rw [List.map_append]
      exact add_rows sl (prim_of (args1 er) rfl) (by rw [List.length_map]; show _ + 1 ≤ _; omega)
  rw [decide_eq_false h6] at c10
  by_cases h7 : way = 7
  · rw [decide_eq_true h7] at c11
    exact ⟨[], fun _ h => absurd h List.not_mem_nil, Nat.zero_le _, fin (l := []) (front ((seq_nx ((ifS_f c10).trans rfl)).trans (seq_rt ((ifS_t c11).trans (ret_of rfl)))))⟩
  rw [decide_eq_false h7] at c11
  obtain ⟨m, em, hm, lm⟩ := cut_rows (rows := rows) (a := none) (b := some at_)
  obtain ⟨m', em', hm', lm'⟩ := cut_rows (rows := rows) (a := some (at_ + 1)) (b := none)
  have sl1 : dSl pSl (dVar 0) oNone (oSome (dVar 4)) ρ ([] : Sto) = some (.lst .own (m.map PRow.d), []) := by
    rw [← em]
    exact sl_lst (k := k) rfl rfl (some_of rfl)
  have sl2 : dSl pSl (dVar 0) (oSome (dBin pAdd (dVar 4) (dC (.int 1)))) oNone ρ ([] : Sto) = some (.lst .own (m'.map PRow.d), []) := by
    rw [← em']
    exact sl_lst (k := k) rfl (some_of (addI_of (a := at_) (b := 1) rfl rfl)) rfl
  have hw : way = 0 ∨ way = 1 ∨ way = 2 ∨ way = 3 ∨ way = 4 ∨ way = 5 := by omega
  obtain ⟨r, gr, er⟩ : ∃ r : PRow, rG r ∧ dBin pIx (dVar 9) (dVar 5) ρ ([] : Sto) = some (r.d, []) := by
    have key : ∀ (i : Nat) (r : PRow), B[i]? = some r → way = (i : Nat) → ∃ r : PRow, rG r ∧ dBin pIx (dVar 9) (dVar 5) ρ ([] : Sto) = some (r.d, []) := fun i r hi hw => ⟨r, gA r (List.mem_of_getElem? hi), bin_of (x := .lst .own (B.map PRow.d)) (y := .int way) rfl rfl (by rw [hw]; exact ix_seq (atD_nat (by rw [List.getElem?_map, hi]; rfl)))⟩
    rcases hw with h | h | h | h | h | h
    · exact key 0 _ rfl h
    · exact key 1 _ rfl h
    · exact key 2 _ rfl h
    · exact key 3 _ rfl h
    · exact key 4 _ rfl h
    · exact key 5 _ rfl h
  refine ⟨m ++ [r] ++ m', fun x hx => ?_, by rw [List.length_append, List.length_append, List.length_singleton]; omega, fin (front ((seq_nx ((ifS_f c10).trans rfl)).trans ((seq_nx ((ifS_f c11).trans rfl)).trans (ret_of ?_))))⟩
  · rcases List.mem_append.mp hx with z | z
    · rcases List.mem_append.mp z with z | z
      · exact hr x (hm x z)
      · rw [List.mem_singleton.mp z]; exact gr
    · exact hr x (hm' x z)
  · rw [List.map_append, List.map_append]
    exact add_rows (add_rows sl1 (prim_of (args1 er) rfl) (by rw [List.length_map]; show _ + 1 ≤ _; omega)) sl2 (by simp only [List.length_append, List.length_map, List.length_singleton]; omega)
end Lk14

namespace Lk14
open PySem PySem.Spec PyProof.Rows L2 Dn
/-! ### the law -/
theorem d_cells (ns : List Int) : ∃ cf : Nat → Int, ∀ i, i < 100 → pureOf F_law_cell [.lst .ext (ns.map .int), .int (i : Nat)] = some (.int (cf i)) := by
  obtain ⟨f, hf⟩ := choose_all (P := fun (i : Nat) (x : Int) => i < 100 → pureOf F_law_cell [.lst .ext (ns.map .int), .int (i : Nat)] = some (.int x)) fun i => by
    by_cases q : i < 100
    · obtain ⟨x, hx⟩ := w_cell .ext ns i q
      exact ⟨x, fun _ => hx⟩
    · exact ⟨0, fun h => absurd h q⟩
  exact ⟨f, hf⟩
theorem d_cellE {ns : List Int} {cf : Nat → Int} (hcf : ∀ i, i < 100 → pureOf F_law_cell [.lst .ext (ns.map .int), .int (i : Nat)] = some (.int (cf i))) {k : Nat} {ρ : List (Option DV)} {S : Sto} {e : DE} (hk : k < 100) (h : dVar 0 ρ S = some (.lst .ext (ns.map .int), S)) (he : e ρ S = some (.int (k : Nat), S)) :
    dPrim (cP (pureOf F_law_cell) []) (aCons (dVar 0) (aCons e aNil)) ρ S = some (.int (cf k), S) :=
  callPP (args2 h he) (by
    have pSc : plain (.lst .ext (ns.map DV.int)) = true := by simp
    rw [plainL_cons, pSc] <;> rfl) (hcf k hk)
theorem cpL_cons {b : Bool} {S : Sto} {d e : DV} {ds es : List DV} (h : cpD b S d = some e) (hs : cpL b S ds = some es) : cpL b S (d :: ds) = some (e :: es) := by
  unfold cpD at h
  unfold cpL at hs ⊢
  unfold mapDL
  rw [h, hs]
theorem cpL_nil {b : Bool} {S : Sto} : cpL b S [] = some [] := rfl
theorem w_nm_len (b : Int) (k : Nat) : (w_nm b k).length ≤ 1000000 := by
  have sz := w_pt_in (c := b) (j := 7) (m := 6) (by decide)
  show (⟨((w_nl b).set _ _).toArray⟩ : Str).length ≤ _
  show ((w_nl b).set _ _).toArray.size ≤ _
  rw [List.size_toArray, List.length_set]
  unfold w_nl
  rw [List.length_map, List.length_range]
  omega
theorem goodL_mem : ∀ {ds : List DV}, goodL ds = true → ∀ d ∈ ds, good d = true
  | [], _, d, hd => absurd hd List.not_mem_nil
  | e :: es, h, d, hd => by
    have h : (good e && goodL es) = true := h
    rw [Bool.and_eq_true] at h
    rcases List.mem_cons.mp hd with rfl | z
    · exact h.1
    · exact goodL_mem h.2 d z
theorem unk_word {cn sn : List Str} {r : PRow} {w : Str} (h : unk cn sn r = some w) (g : rG r) : PyData.strOk w = true := by
  have t : ∀ {k : Str} {ds : List DV}, good (.tup (.str k :: ds)) = true → ∀ d ∈ ds, good d = true := fun {k ds} h d hd => by
    have h : (PyData.strOk k && goodL ds) = true := h
    rw [Bool.and_eq_true] at h
    exact goodL_mem h.2 d hd
  cases r <;> first
    | (simp only [unk] at h
       split at h
       · cases h
       · cases h
         exact t g (.str _) (by simp))
    | cases h
theorem fU_word {cn sn : List Str} {w : Str} {j : Nat} : ∀ {rows : List PRow} {i : Nat}, (∀ r ∈ rows, rG r) → fU cn sn rows i = some (w, j) → PyData.strOk w = true
  | [], _, _, h => by cases h
  | r :: rs, i, g, h => by
    unfold fU at h
    cases hu : unk cn sn r with
    | some v =>
      rw [hu] at h
      cases h
      exact unk_word hu (g r (List.mem_cons_self ..))
    | none =>
      rw [hu] at h
      exact fU_word (fun r hr => g r (List.mem_cons_of_mem _ hr)) h
theorem due_ne (cn sn : List Str) (rows : List PRow) (g : ∀ r ∈ rows, rG r) (S : Sto) (neg : Bool) : pEq neg (dueD cn sn rows) (dueD cn sn rows) S = some (.bl (!neg), S) := by
  unfold dueD
  cases hu : fU cn sn rows 0 with
  | some q =>
    obtain ⟨w, j⟩ := q
    have hw := fU_word g hu
    exact eqqP (d := .lst .own [.str "unknown", .str w, .int (j : Nat)]) rfl (show (PyData.strOk "unknown" && (PyData.strOk w && (true && true))) = true by rw [hw]; decide +kernel) (by show max 0 (max 0 (max 0 0)) + 1 ≤ 64; decide) rfl neg
  | none =>
    dsimp only
    split
    · exact eqqP rfl (by decide +kernel) (by decide) rfl neg
    · cases fF rows.length rows 0 with
      | some j => exact eqqP (d := .lst .own [.str "falls", .int (j : Nat)]) rfl (show (PyData.strOk "falls" && (true && true)) = true by decide +kernel) (by show max 0 (max 0 0) + 1 ≤ 64; decide) rfl neg
      | none => exact eqqP rfl (by decide +kernel) (by decide) rfl neg
end Lk14

namespace Lk14
open PySem PySem.Spec PyProof.Rows L2 Dn
abbrev lE (Sc : DV) (x1 x2 x3 x4 x5 x6 x7 x8 x9 x10 x11 x12 x13 : Option DV) : List (Option DV) := [some Sc, x1, x2, x3, x4, x5, x6, x7, x8, x9, x10, x11, x12, x13]
/-- rows as the law has them: the list first made, or what was spoilt of it -/
def Rw (R0 : List PRow) (X : DV) (rows : List PRow) : Prop := (X = .loc 0 ∧ rows = R0) ∨ X = .lst .own (rows.map PRow.d)
theorem rows_plain (rows : List PRow) : plainL (rows.map PRow.d) = true := plainL_map fun _ _ => PRow.plain_d
theorem rw_cp {R0 rows : List PRow} {X : DV} (h : Rw R0 X rows) (h0 : R0 ≠ []) : ∃ k : LK, k ≠ .ext ∧ (k = .own ∨ rows ≠ []) ∧ cpD true [Cell.lst (R0.map PRow.d)] X = some (.lst k (rows.map PRow.d)) := by
  rcases h with ⟨rfl, rfl⟩ | rfl
  · exact ⟨.bor, by decide, .inr h0, cpD_loc (b := true) (n := 0) rfl (rows_plain rows)⟩
  · exact ⟨.own, by decide, .inl rfl, cpD_bor (rows_plain rows)⟩
theorem rw_tup {R0 rows : List PRow} {X : DV} (h : Rw R0 X rows) : pTuple [X] [Cell.lst (R0.map PRow.d)] = some (.tup (rows.map PRow.d), [Cell.lst (R0.map PRow.d)]) := by
  rcases h with ⟨rfl, rfl⟩ | rfl <;> rfl
theorem enD_nm {b : Int} (m : Nat) : enD 0 (lS ((List.range m).map fun k => w_nm b (6 + k))) = (List.range m).map fun k => DV.tup [.int (k : Nat), .str (w_nm b (6 + k))] := by
  refine List.ext_getElem? fun i => ?_
  rw [enD_get, List.getElem?_map, List.getElem?_map, List.getElem?_map]
  by_cases q : i < m
  · rw [List.getElem?_range q, Nat.zero_add]; rfl
  · rw [List.getElem?_eq_none (by rw [List.length_range]; omega)]; rfl
theorem law_true (ns : List Int) (hl : ns.length ≤ 63) : ∃ S', F_law [.lst .ext (ns.map DV.int)] [] = some (.bl true, S') := by
  let Sc : DV := .lst .ext (ns.map DV.int)
  let o : Option DV := none
  obtain ⟨cf, hcf⟩ := d_cells ns
  let c := cf 0
  let b := cf 1
  have p0 := w_pt_in (c := c) (j := 0) (m := 7) (by decide)
  have p1 := w_pt_in (c := c) (j := 1) (m := 5) (by decide)
  have p2 := w_pt_in (c := c) (j := 2) (m := 9) (by decide)
  have p4 := w_pt_in (c := c) (j := 4) (m := 59) (by decide)
  have p5 := w_pt_in (c := c) (j := 5) (m := 3) (by decide)
  have p7 := w_pt_in (c := c) (j := 7) (m := 3) (by decide)
  obtain ⟨n, hn⟩ : ∃ n : Nat, w_pt c 0 7 = (n : Nat) := ⟨_, (Int.toNat_of_nonneg p0.1).symm⟩
  obtain ⟨m, hm⟩ : ∃ m : Nat, w_pt c 1 5 = (m : Nat) := ⟨_, (Int.toNat_of_nonneg p1.1).symm⟩
  let j1 : Option DV := some (.int c)
  let j2 : Option DV := some (.int b)
  let L : DV := .lst .own [.int (n : Nat), .int (m : Nat)]
  let j3 : Option DV := some L
  have s1 : dSet 1 (dPrim (cP (pureOf F_law_cell) []) (aCons (dVar 0) (aCons (dC (.int 0)) aNil))) (lE Sc o o o o o o o o o o o o o) ([] : Sto) = some (.nx (lE Sc j1 o o o o o o o o o o o o) []) := set_of (d_cellE hcf (k := 0) (by decide) rfl rfl)
  have s2 : dSet 2 (dPrim (cP (pureOf F_law_cell) []) (aCons (dVar 0) (aCons (dC (.int 1)) aNil))) (lE Sc j1 o o o o o o o o o o o o) ([] : Sto) = some (.nx (lE Sc j1 j2 o o o o o o o o o o o) []) := set_of (d_cellE hcf (k := 1) (by decide) rfl rfl)
  have s3 : dSet 3 (dPrim pLst (aCons (dPrim (cP (pureOf F_law_part) []) (aCons (dVar 1) (aCons (dC (.int 0)) (aCons (dC (.int 7)) aNil)))) (aCons (dPrim (cP (pureOf F_law_part) []) (aCons (dVar 1) (aCons (dC (.int 1)) (aCons (dC (.int 5)) aNil)))) aNil))) (lE Sc j1 j2 o o o o o o o o o o o) ([] : Sto) = some (.nx (lE Sc j1 j2 j3 o o o o o o o o o o) []) := by
    have e0 := w_part_of (f := dVar 1) (g := dC (.int 0)) (e := dC (.int 7)) (ρ := lE Sc j1 j2 o o o o o o o o o o o) (S := []) (c := c) (j := 0) (m := 7) rfl rfl rfl (by decide)
    have e1 := w_part_of (f := dVar 1) (g := dC (.int 1)) (e := dC (.int 5)) (ρ := lE Sc j1 j2 o o o o o o o o o o o) (S := []) (c := c) (j := 1) (m := 5) rfl rfl rfl (by decide)
    rw [hn] at e0
    rw [hm] at e1
    exact set_of (prim_of (args2 e0 e1) rfl)
  obtain ⟨many, hm0, hm1, s4⟩ : ∃ many : Nat, 0 < many ∧ many ≤ 59 ∧ ∀ {t : DS} {r : Option Out}, t (lE Sc j1 j2 j3 (some (.int (many : Nat))) o o o o o o o o o) ([] : Sto) = r → dSeq (dSet 4 (dBin pAdd (dC (.int 1)) (dPrim (cP (pureOf F_law_part) []) (aCons (dVar 1) (aCons (dC (.int 2)) (aCons (dC (.int 9)) aNil))))))
      (dSeq (dIfS (dBin (pEq false) (dPrim (cP (pureOf F_law_part) []) (aCons (dVar 1) (aCons (dC (.int 3)) (aCons (dC (.int 8)) aNil)))) (dC (.int 1))) (dSet 4 (dBin pAdd (dC (.int 1)) (dPrim (cP (pureOf F_law_part) []) (aCons (dVar 1) (aCons (dC (.int 4)) (aCons (dC (.int 59)) aNil)))))) dNext) t) (lE Sc j1 j2 j3 o o o o o o o o o o) ([] : Sto) = r := by
    obtain ⟨q1, h1⟩ : ∃ q : Nat, (q : Int) = 1 + w_pt c 2 9 := ⟨(1 + w_pt c 2 9).toNat, by omega⟩
    obtain ⟨q2, h2⟩ : ∃ q : Nat, (q : Int) = 1 + w_pt c 4 59 := ⟨(1 + w_pt c 4 59).toNat, by omega⟩
    have s4 : dSet 4 (dBin pAdd (dC (.int 1)) (dPrim (cP (pureOf F_law_part) []) (aCons (dVar 1) (aCons (dC (.int 2)) (aCons (dC (.int 9)) aNil))))) (lE Sc j1 j2 j3 o o o o o o o o o o) ([] : Sto) = some (.nx (lE Sc j1 j2 j3 (some (.int (q1 : Nat))) o o o o o o o o o) []) := by
      rw [h1]
      exact set_of (addI_of (a := 1) rfl (w_part_of (c := c) (j := 2) (m := 9) rfl rfl rfl (by decide)))
    have cd : dBin (pEq false) (dPrim (cP (pureOf F_law_part) []) (aCons (dVar 1) (aCons (dC (.int 3)) (aCons (dC (.int 8)) aNil)))) (dC (.int 1)) (lE Sc j1 j2 j3 (some (.int (q1 : Nat))) o o o o o o o o o) ([] : Sto) = some (.bl (decide (w_pt c 3 8 = 1)), []) := bin_of (w_part_of (c := c) (j := 3) (m := 8) rfl rfl rfl (by decide)) (y := .int 1) rfl v_eqI
    by_cases q : w_pt c 3 8 = 1
    · rw [decide_eq_true q] at cd
      refine ⟨q2, by omega, by omega, fun {t r} h => (seq_nx s4).trans ((seq_nx ((ifS_t cd).trans ?_)).trans h)⟩
      rw [h2]
      exact set_of (addI_of (a := 1) rfl (w_part_of (c := c) (j := 4) (m := 59) rfl rfl rfl (by decide)))
    · rw [decide_eq_false q] at cd
      exact ⟨q1, by omega, by omega, fun {t r} h => (seq_nx s4).trans ((seq_nx ((ifS_f cd).trans rfl)).trans h)⟩
  let j4 : Option DV := some (.int (many : Nat))
  let cn : List Str := (List.range n).map fun k => w_nm b k
  let sn : List Str := (List.range m).map fun k => w_nm b (6 + k)
  let j5 : Option DV := some (.lst .own (lS cn))
  let j6 : Option DV := some (.lst .own (lS sn))
  have s5 : dSet 5 (dLc (iRange1 (aCons (dBin pIx (dVar 3) (dC (.int 0))) aNil)) (gSet 8) (dC (.bl true)) (dPrim (cP (pureOf F_law_name) []) (aCons (dVar 2) (aCons (dVar 8) aNil))) [8]) (lE Sc j1 j2 j3 j4 o o o o o o o o o) ([] : Sto) = some (.nx (lE Sc j1 j2 j3 j4 j5 o o o o o o o o) []) := by
    refine set_of ((dLc_of (vs := [8]) (rgN_of (n := n) (bin_of (x := L) (y := .int 0) rfl rfl (ix_seq (atD_nat (k := 0) rfl))) (by omega)) (lc_all (D := fun (i : Nat) => DV.int i) (E := fun k => DV.str (w_nm b k)) (K := List.range n) fun k hk => ?_) (size_ok (by rw [List.length_map, List.length_range]; omega))).trans ?_)
    · exact ⟨lE Sc j1 j2 j3 j4 o o o (some (.int (k : Nat))) o o o o o, rfl, rfl, a_name_of (b := b) (z := (k : Nat)) rfl rfl (by omega)⟩
    · show some (DV.lst .own _, ([] : Sto)) = some (DV.lst .own (((List.range n).map fun k => w_nm b k).map .str), [])
      rw [List.map_map]; rfl
  have s6 : dSet 6 (dLc (iRange1 (aCons (dBin pIx (dVar 3) (dC (.int 1))) aNil)) (gSet 8) (dC (.bl true)) (dPrim (cP (pureOf F_law_name) []) (aCons (dVar 2) (aCons (dBin pAdd (dC (.int 6)) (dVar 8)) aNil))) [8]) (lE Sc j1 j2 j3 j4 j5 o o o o o o o o) ([] : Sto) = some (.nx (lE Sc j1 j2 j3 j4 j5 j6 o o o o o o o) []) := by
    refine set_of ((dLc_of (vs := [8]) (rgN_of (n := m) (bin_of (x := L) (y := .int 1) rfl rfl (ix_seq (atD_nat (k := 1) rfl))) (by omega)) (lc_all (D := fun (i : Nat) => DV.int i) (E := fun k => DV.str (w_nm b (6 + k))) (K := List.range m) fun k hk => ?_) (size_ok (by rw [List.length_map, List.length_range]; omega))).trans ?_)
    · refine ⟨lE Sc j1 j2 j3 j4 j5 o o (some (.int (k : Nat))) o o o o o, rfl, rfl, ?_⟩
      have := a_name_of (f := dVar 2) (g := dBin pAdd (dC (.int 6)) (dVar 8)) (ρ := lE Sc j1 j2 j3 j4 j5 o o (some (.int (k : Nat))) o o o o o) (S := []) (b := b) (z := 6 + (k : Nat)) rfl (addI_of (a := 6) (b := (k : Nat)) rfl rfl) (by omega)
      rw [show (6 + ((k : Nat) : Int)).toNat = 6 + k by omega] at this
      exact this
    · show some (DV.lst .own _, ([] : Sto)) = some (DV.lst .own (((List.range m).map fun k => w_nm b (6 + k)).map .str), [])
      rw [List.map_map]; rfl
  obtain ⟨rf, hrf⟩ := choose_all (P := fun (k : Nat) (r : PRow) => rG r ∧ pureOf F_law_row [.int (cf (5 + k)), .int b, L, .int (many : Nat)] = some r.d) fun k => h_row (cf (5 + k)) b n m many hm0
  let A : List PRow := (List.range many).map rf
  have la : A.length = many := by show ((List.range many).map rf).length = many; rw [List.length_map, List.length_range]
  have s7 : dSet 7 (dLcM (iRange1 (aCons (dVar 4) aNil)) (gSet 8) (dC (.bl true)) (dPrim (cP (pureOf F_law_row) []) (aCons (dPrim (cP (pureOf F_law_cell) []) (aCons (dVar 0) (aCons (dBin pAdd (dC (.int 5)) (dVar 8)) aNil))) (aCons (dVar 2) (aCons (dVar 3) (aCons (dVar 4) aNil))))) [8]) (lE Sc j1 j2 j3 j4 j5 j6 o o o o o o o) ([] : Sto) = some (.nx (lE Sc j1 j2 j3 j4 j5 j6 (some (.loc 0)) o o o o o o) [.lst (A.map PRow.d)]) := by
    refine set_of ((dLcM_of (S1 := []) (S2 := []) (rgN_of (n := many) rfl (by omega)) (lc_all (D := fun (i : Nat) => DV.int i) (E := fun k => (rf k).d) (K := List.range many) fun k hk => ?_) (size_ok (by rw [List.length_map, List.length_range]; omega))).trans ?_)
    · have hk := List.mem_range.mp hk
      refine ⟨lE Sc j1 j2 j3 j4 j5 j6 o (some (.int (k : Nat))) o o o o o, rfl, rfl, ?_⟩
      exact callPP (argsC (d_cellE hcf (k := 5 + k) (by omega) rfl (addI_of (a := 5) (b := (k : Nat)) rfl rfl)) (args3 (x := .int b) (y := L) (z := .int (many : Nat)) rfl rfl rfl)) rfl (hrf k).2
    · simp only [A, List.map_map]; rfl
  obtain ⟨re, ge, s8⟩ : ∃ re : PRow, rG re ∧ dExpr (dMt pAppend (dVar 7) (aCons (dBin pIx (dPrim pLst (aCons (dPrim pTup (aCons (dC (.str "end")) (aCons (dC (.int 0)) aNil))) (aCons (dPrim pTup (aCons (dC (.str "go")) (aCons (dPrim (cP (pureOf F_law_part) []) (aCons (dVar 1) (aCons (dC (.int 6)) (aCons (dBin pAdd (dVar 4) (dC (.int 1))) aNil)))) aNil))) (aCons (dPrim pTup (aCons (dC (.str "end")) (aCons (dC (.int 7)) aNil))) aNil)))) (dPrim (cP (pureOf F_law_part) []) (aCons (dVar 1) (aCons (dC (.int 7)) (aCons (dC (.int 3)) aNil))))) aNil)) (lE Sc j1 j2 j3 j4 j5 j6 (some (.loc 0)) o o o o o o) [.lst (A.map PRow.d)] = some (.nx (lE Sc j1 j2 j3 j4 j5 j6 (some (.loc 0)) o o o o o o) [.lst (A.map PRow.d ++ [re.d])]) := by
    let St : Sto := [.lst (A.map PRow.d)]
    let ρ := lE Sc j1 j2 j3 j4 j5 j6 (some (.loc 0)) o o o o o o
    have p6 := w_pt_in (c := c) (j := 6) (m := (many : Int) + 1) (by omega)
    obtain ⟨g, hg⟩ : ∃ g : Nat, w_pt c 6 ((many : Int) + 1) = (g : Nat) := ⟨_, (Int.toNat_of_nonneg p6.1).symm⟩
    have gw := w_part_of (f := dVar 1) (g := dC (.int 6)) (e := dBin pAdd (dVar 4) (dC (.int 1))) (ρ := ρ) (S := St) (c := c) (j := 6) (m := (many : Int) + 1) rfl rfl (addI_of (a := (many : Nat)) (b := 1) rfl rfl) (by omega)
    rw [hg] at gw
    have el : dPrim pLst (aCons (dPrim pTup (aCons (dC (.str "end")) (aCons (dC (.int 0)) aNil))) (aCons (dPrim pTup (aCons (dC (.str "go")) (aCons (dPrim (cP (pureOf F_law_part) []) (aCons (dVar 1) (aCons (dC (.int 6)) (aCons (dBin pAdd (dVar 4) (dC (.int 1))) aNil)))) aNil))) (aCons (dPrim pTup (aCons (dC (.str "end")) (aCons (dC (.int 7)) aNil))) aNil))) ρ St = some (.lst .own [(PRow.endr (.n 0)).d, (PRow.go g).d, (PRow.endr (.n 7)).d], St) :=
      prim_of (args3 (x := (PRow.endr (.n 0)).d) (z := (PRow.endr (.n 7)).d) rfl (prim_of (args2 (x := .str "go") rfl gw) rfl) rfl) rfl
    have pp := w_part_of (f := dVar 1) (g := dC (.int 7)) (e := dC (.int 3)) (ρ := ρ) (S := St) (c := c) (j := 7) (m := 3) rfl rfl rfl (by decide)
    have fin : (∃ r : PRow, rG r ∧ dBin pIx (dPrim pLst (aCons (dPrim pTup (aCons (dC (.str "end")) (aCons (dC (.int 0)) aNil))) (aCons (dPrim pTup (aCons (dC (.str "go")) (aCons (dPrim (cP (pureOf F_law_part) []) (aCons (dVar 1) (aCons (dC (.int 6)) (aCons (dBin pAdd (dVar 4) (dC (.int 1))) aNil)))) aNil))) (aCons (dPrim pTup (aCons (dC (.str "end")) (aCons (dC (.int 7)) aNil))) aNil)))) (dPrim (cP (pureOf F_law_part) []) (aCons (dVar 1) (aCons (dC (.int 7)) (aCons (dC (.int 3)) aNil)))) ρ St = some (r.d, St)) := by
      rcases (show w_pt c 7 3 = 0 ∨ w_pt c 7 3 = 1 ∨ w_pt c 7 3 = 2 by omega) with h | h | h
      · exact ⟨.endr (.n 0), g1 (by decide +kernel) rfl, bin_of el pp (by rw [h]; exact ix_seq (atD_nat (k := 0) rfl))⟩
      · exact ⟨.go g, g1 (by decide +kernel) rfl, bin_of el pp (by rw [h]; exact ix_seq (atD_nat (k := 1) rfl))⟩
      · exact ⟨.endr (.n 7), g1 (by decide +kernel) rfl, bin_of el pp (by rw [h]; exact ix_seq (atD_nat (k := 2) rfl))⟩
    obtain ⟨r, hr, h⟩ := fin
    exact ⟨r, hr, append_of (n := 0) (xs := A.map PRow.d) rfl rfl h (by rw [List.length_map]; omega)⟩
  let R0 : List PRow := A ++ [re]
  let St : Sto := [.lst (R0.map PRow.d)]
  have eSt : ([.lst (A.map PRow.d ++ [re.d])] : Sto) = St := by show _ = [Cell.lst ((A ++ [re]).map PRow.d)]; rw [List.map_append]; rfl
  rw [eSt] at s8
  have r0 : R0 ≠ [] := by show A ++ [re] ≠ []; simp
  have l0 : R0.length + 1 ≤ 61 := by show (A ++ [re]).length + 1 ≤ 61; rw [List.length_append, la, List.length_singleton]; omega
  have g0 : ∀ r ∈ R0, rG r := fun r hr => by
    rcases List.mem_append.mp hr with z | z
    · obtain ⟨k, _, rfl⟩ := List.mem_map.mp z
      exact (hrf k).1
    · rw [List.mem_singleton.mp z]; exact ge
  let B : DS := dSet 7 (dPrim (cP (pureOf F_law_spoilt) []) (aCons (dVar 7) (aCons (dVar 3) (aCons (dVar 2) (aCons (dPrim (cP (pureOf F_law_cell) []) (aCons (dVar 0) (aCons (dBin pAdd (dC (.int 2)) (dVar 8)) aNil))) aNil)))))
  have loop : ∀ (t i : Nat) (X : DV) (rows : List PRow) (x8 : Option DV), i + t ≤ 2 → Rw R0 X rows → (∀ r ∈ rows, rG r) → rows.length + 1 ≤ 61 * 2 ^ i →
      ∃ X' rows' y8, Rw R0 X' rows' ∧ (∀ r ∈ rows', rG r) ∧ rows'.length ≤ 1000 ∧ forL (gSet 8) B ((List.range' i t).map fun (j : Nat) => DV.int j) (lE Sc j1 j2 j3 j4 j5 j6 (some X) x8 o o o o o) St = some (.nx (lE Sc j1 j2 j3 j4 j5 j6 (some X') y8 o o o o o) St) := by
    intro t
    induction t with
    | zero =>
      intro i X rows x8 hi hX hg hz
      have : 2 ^ i ≤ 2 ^ 2 := Nat.pow_le_pow_right (by decide) (by omega)
      exact ⟨X, rows, x8, hX, hg, by omega, rfl⟩
    | succ t ih =>
      intro i X rows x8 hi hX hg hz
      have : 2 ^ i ≤ 2 ^ 2 := Nat.pow_le_pow_right (by decide) (by omega)
      obtain ⟨k, hk, ho, hc⟩ := rw_cp hX r0
      obtain ⟨rows', hg', hz', e⟩ := h_spoilt k hk rows hg (by omega) ho L rfl b (cf (2 + i))
      have b1 : B (lE Sc j1 j2 j3 j4 j5 j6 (some X) (some (.int (i : Nat))) o o o o o) St = some (.nx (lE Sc j1 j2 j3 j4 j5 j6 (some (.lst .own (rows'.map PRow.d))) (some (.int (i : Nat))) o o o o o) St) :=
        set_of (callP (argsC (x := X) rfl (args3 (x := L) (y := .int b) rfl rfl (d_cellE hcf (k := 2 + i) (by omega) rfl (addI_of (a := 2) (b := (i : Nat)) rfl rfl)))) (cpL_cons hc (cpL_plain rfl)) e)
      obtain ⟨X2, rows2, y8, a1, a2, a3, a4⟩ := ih (i + 1) (.lst .own (rows'.map PRow.d)) rows' (some (.int (i : Nat))) (by omega) (.inr rfl) hg' (by rw [Nat.pow_succ]; omega)
      rw [List.range'_succ, List.map_cons]
      exact ⟨X2, rows2, y8, a1, a2, a3, (forL_nx (ρ1 := lE Sc j1 j2 j3 j4 j5 j6 (some X) (some (.int (i : Nat))) o o o o o) (S1 := St) rfl b1).trans a4⟩
  obtain ⟨q, hq⟩ : ∃ q : Nat, w_pt c 5 3 = (q : Nat) := ⟨_, (Int.toNat_of_nonneg p5.1).symm⟩
  obtain ⟨X, rows, j8, hX, gR, lR, e9⟩ := loop q 0 (.loc 0) R0 o (by omega) (.inl ⟨rfl, rfl⟩) g0 (by omega)
  rw [← List.range_eq_range'] at e9
  have s9 : dFor (iRange1 (aCons (dPrim (cP (pureOf F_law_part) []) (aCons (dVar 1) (aCons (dC (.int 5)) (aCons (dC (.int 3)) aNil)))) aNil)) (gSet 8) B (lE Sc j1 j2 j3 j4 j5 j6 (some (.loc 0)) o o o o o o) St = some (.nx (lE Sc j1 j2 j3 j4 j5 j6 (some X) j8 o o o o o) St) := by
    refine for_of (rgN_of (n := q) ?_ (by omega)) e9
    rw [← hq]
    exact w_part_of (c := c) (j := 5) (m := 3) rfl rfl rfl (by decide)
  let j7 : Option DV := some X
  let cells : List (Str × Int × Bool) := (List.range n).map fun k => (w_nm b k, 5, decide (((w_nm b k).length : Int) % 2 = 1))
  let shelves : List (Str × Int × Bool) := (List.range m).map fun k => (w_nm b (6 + k), 1 + ((k : Nat) : Int) % 8, decide (((k : Nat) : Int) % 2 = 0))
  have ecn : cells.map (·.1) = cn := by show ((List.range n).map _).map _ = _; rw [List.map_map]; rfl
  have esn : shelves.map (·.1) = sn := by show ((List.range m).map _).map _ = _; rw [List.map_map]; rfl
  let j9 : Option DV := some (.lst .own (cells.map tD))
  let j10 : Option DV := some (.lst .own (shelves.map tD))
  have s10 : dSet 9 (dLc (iSeq (dVar 5)) (gSet 13) (dC (.bl true)) (dPrim pTup (aCons (dVar 13) (aCons (dC (.int 5)) (aCons (dBin (pEq false) (dBin pMod (dPrim pLen (aCons (dVar 13) aNil)) (dC (.int 2))) (dC (.int 1))) aNil)))) [13]) (lE Sc j1 j2 j3 j4 j5 j6 j7 j8 o o o o o) St = some (.nx (lE Sc j1 j2 j3 j4 j5 j6 j7 j8 j9 o o o o) St) := by
    have hi : iSeq (dVar 5) (lE Sc j1 j2 j3 j4 j5 j6 j7 j8 o o o o o) St = some ((List.range n).map fun k => DV.str (w_nm b k), St) := (iSeqL_of (k := .own) (xs := lS cn) rfl).trans (by show some (((List.range n).map fun k => w_nm b k).map DV.str, St) = _; rw [List.map_map]; rfl)
    refine set_of ((dLc_of (vs := [13]) hi (lc_all (D := fun k => DV.str (w_nm b k)) (E := fun k => tD (w_nm b k, 5, decide (((w_nm b k).length : Int) % 2 = 1))) (K := List.range n) fun k hk => ?_) (size_ok (by rw [List.length_map, List.length_range]; omega))).trans ?_)
    · have ln : ∀ {ρ : List (Option DV)}, dVar 13 ρ St = some (.str (w_nm b k), St) → dPrim pLen (aCons (dVar 13) aNil) ρ St = some (.int ((w_nm b k).length : Nat), St) := fun {ρ} h => prim_of (args1 h) (by rw [v_lenS, if_pos (size_ok (by have := w_nm_len b k; omega))])
      refine ⟨lE Sc j1 j2 j3 j4 j5 j6 j7 j8 o o o o (some (.str (w_nm b k))), rfl, rfl, prim_of (args3 (x := .str (w_nm b k)) (y := .int 5) rfl rfl (bin_of (modI_of (ln rfl) (b := 2) rfl (by decide)) (y := .int 1) rfl v_eqI)) rfl⟩
    · show some (DV.lst .own _, St) = some (DV.lst .own (((List.range n).map _).map tD), St)
      rw [List.map_map]; rfl
  have s11 : dSet 10 (dLc (iEnum2 (aCons (dVar 6) aNil)) (gTupD 2 (gsCons (gSet 8) (gsCons (gSet 13) gsNil))) (dC (.bl true)) (dPrim pTup (aCons (dVar 13) (aCons (dBin pAdd (dC (.int 1)) (dBin pMod (dVar 8) (dC (.int 8)))) (aCons (dBin (pEq false) (dBin pMod (dVar 8) (dC (.int 2))) (dC (.int 0))) aNil)))) [8, 13]) (lE Sc j1 j2 j3 j4 j5 j6 j7 j8 j9 o o o o) St = some (.nx (lE Sc j1 j2 j3 j4 j5 j6 j7 j8 j9 j10 o o o) St) := by
    have hi : iEnum2 (aCons (dVar 6) aNil) (lE Sc j1 j2 j3 j4 j5 j6 j7 j8 j9 o o o o) St = some ((List.range m).map fun k => DV.tup [.int (k : Nat), .str (w_nm b (6 + k))], St) := (show _ = some (enD 0 (lS sn), St) from rfl).trans (by rw [enD_nm])
    refine set_of ((dLc_of (vs := [8, 13]) hi (lc_all (D := fun k => DV.tup [.int (k : Nat), .str (w_nm b (6 + k))]) (E := fun k => tD (w_nm b (6 + k), 1 + ((k : Nat) : Int) % 8, decide (((k : Nat) : Int) % 2 = 0))) (K := List.range m) fun k hk => ?_) (size_ok (by rw [List.length_map, List.length_range]; omega))).trans ?_)
    · exact ⟨lE Sc j1 j2 j3 j4 j5 j6 j7 (some (.int (k : Nat))) j9 o o o (some (.str (w_nm b (6 + k)))), rfl, rfl, prim_of (args3 (x := .str (w_nm b (6 + k))) rfl (addI_of (a := 1) rfl (modI_of (a := (k : Nat)) (b := 8) rfl rfl (by decide))) (bin_of (modI_of (a := (k : Nat)) (b := 2) rfl rfl (by decide)) (y := .int 0) rfl v_eqI)) rfl⟩
    · show some (DV.lst .own _, St) = some (DV.lst .own (((List.range m).map _).map tD), St)
      rw [List.map_map]; rfl
  let P := kP cells shelves rows
  let j11 : Option DV := some P
  have s12 : dSet 11 (dPrim pTup (aCons (dPrim pTuple (aCons (dVar 9) aNil)) (aCons (dPrim pTuple (aCons (dVar 10) aNil)) (aCons (dPrim pTuple (aCons (dVar 7) aNil)) aNil)))) (lE Sc j1 j2 j3 j4 j5 j6 j7 j8 j9 j10 o o o) St = some (.nx (lE Sc j1 j2 j3 j4 j5 j6 j7 j8 j9 j10 j11 o o) St) :=
    set_of (prim_of (args3 (prim_of (args1 (f := dVar 9) (x := .lst .own (cells.map tD)) rfl) rfl) (prim_of (args1 (f := dVar 10) (x := .lst .own (shelves.map tD)) rfl) rfl) (prim_of (args1 (f := dVar 7) (x := X) rfl) (rw_tup hX))) rfl)
  let D := dueD cn sn rows
  let j12 : Option DV := some D
  have s13 : dSet 12 (dPrim (cP (pureOf F_law_due) []) (aCons (dVar 5) (aCons (dVar 6) (aCons (dVar 7) aNil)))) (lE Sc j1 j2 j3 j4 j5 j6 j7 j8 j9 j10 j11 o o) St = some (.nx (lE Sc j1 j2 j3 j4 j5 j6 j7 j8 j9 j10 j11 j12 o) St) := by
    obtain ⟨k, hk, ho, hc⟩ := rw_cp hX r0
    have ps : ∀ l : List Str, plain (.lst .own (lS l)) = true := fun l => by rw [plain_own]; exact plainL_map fun _ _ => rfl
    exact set_of (callP (args3 (x := .lst .own (lS cn)) (y := .lst .own (lS sn)) (z := X) rfl rfl rfl) (cpL_cons (cpD_plain (ps cn)) (cpL_cons (cpD_plain (ps sn)) (cpL_cons hc cpL_nil))) (due_eq cn sn rows k hk lR gR))
  let ρ := lE Sc j1 j2 j3 j4 j5 j6 j7 j8 j9 j10 j11 j12 o
  have c14 : dNot (dPrim (cP (pureOf F_law_made) []) (aCons (dPrim (cP (pureOf F_law_name) []) (aCons (dVar 2) (aCons (dC (.int 3)) aNil))) (aCons (dPrim (cP (pureOf F_law_part) []) (aCons (dVar 1) (aCons (dC (.int 6)) (aCons (dC (.int 60)) aNil)))) aNil))) ρ St = some (.bl false, St) :=
    not_of (a := true) (callPP (args2 (a_name_of (b := b) (z := 3) rfl rfl (by decide)) (w_part_of (c := c) (j := 6) (m := 60) rfl rfl rfl (by decide))) rfl (made_eq _ _))
  have td : dPrim (cP (pureOf F_law_told) []) (aCons (dVar 11) aNil) ρ St = some (D, St) := by
    have pt : ∀ l : List (Str × Int × Bool), plain (.tup (l.map tD)) = true := fun l => by rw [plain_tup]; exact plainL_map fun _ _ => rfl
    have pl : plainL [P] = true := by
      rw [plainL_cons]
      show (plain (.tup [.tup (cells.map tD), .tup (shelves.map tD), .tup (rows.map PRow.d)]) && true) = true
      rw [plain_tup, plainL_cons, plainL_cons, plainL_cons, pt, pt, plain_tup, rows_plain]
      rfl
    have e := told_eq cells shelves rows (by show ((List.range n).map _).length ≤ 1000; rw [List.length_map, List.length_range]; omega) (by show ((List.range m).map _).length ≤ 1000; rw [List.length_map, List.length_range]; omega)
    rw [ecn, esn] at e
    exact callPP (args1 (x := P) rfl) pl e
  have lk : dBin (pIsB true) (dPrim (cX F_look) (aCons (dPrim pTup (aCons (dPrim pTup aNil) (aCons (dPrim pTup aNil) (aCons (dPrim pTup (aCons (dPrim pTup (aCons (dC (.str "end")) (aCons (dC (.int 3)) aNil))) aNil)) aNil)))) aNil)) (dC (.bl true)) ρ St = some (.bl false, St) := by
    have e := look_eq [] [] [.endr (.n 3)] (by decide) (by decide) St
    have e2 : cX F_look [kP [] [] [.endr (.n 3)]] St = some (.bl true, St) := by
      unfold cX
      rw [e]
      rfl
    exact bin_of (prim_of (args1 (x := kP [] [] [.endr (.n 3)]) rfl) e2) (y := .bl true) rfl rfl
  have c15 : dOr (dBin (pEq true) (dPrim (cP (pureOf F_law_told) []) (aCons (dVar 11) aNil)) (dVar 12)) _ ρ St = _ := or_f (bin_of td (y := D) rfl (due_ne cn sn rows gR St true)) lk
  have fin : b_law (lE Sc o o o o o o o o o o o o o) [] = some (.rt (.bl true) St) :=
    (seq_nx s1).trans ((seq_nx s2).trans ((seq_nx s3).trans (s4 ((seq_nx s5).trans ((seq_nx s6).trans ((seq_nx s7).trans ((seq_nx s8).trans ((seq_nx s9).trans ((seq_nx s10).trans ((seq_nx s11).trans ((seq_nx s12).trans ((seq_nx s13).trans ((seq_nx ((ifS_f c14).trans rfl)).trans ((seq_nx ((ifS_f c15).trans rfl)).trans (ret_of (bin_of td (y := D) rfl (due_ne cn sn rows gR St false)))))))))))))))))
  exact ⟨St, run_rt rfl fin⟩
end Lk14

namespace Lk14
open PySem PySem.Spec PyProof.Rows L2 Dn
theorem walk_law {P : Program} {w : World} {K : PySem.W.Frag} {h : Heap} {mg : Str → Option Value} {f : Addr} (X : K.In h) (G : h.Ns mainGlobals mg) (hfa : mg ("law" : Str) = some (.ref f)) (c : He.SaysD fa fn K) (e : ex K = true) :
    ∃ fd : FuncData, (∀ (s : Shared) (v : Value), BindsTo s fd ⟨[v], []⟩ [("_law_script", v)]) ∧ ∀ base : Heap, K.In base → base.Ns mainGlobals mg → FnOk P w K mg base CX0 5 f fd ["_law_script"] (spS K 1 F_law) := by
  have Y : Fx K mg := ⟨⟨h, X, G⟩, c, e⟩
  obtain ⟨fd, FD⟩ := Y.c.def_ 18 (d := d_law) rfl
  have e0 := hfa.symm.trans (Y.glo 13)
  cases e0
  have b := FunD.bindsA (ps := ["_law_script"]) FD fun _ _ _ _ _ _ us hl => match us, hl with | [_], _ => rfl
  exact ⟨fd, fun s v => b s [v] rfl, fun base _ _ => ok_law_fn FD Y⟩
end Lk14
open PySem PySem.W PySem.Calls PyProof.Rows
set_option maxHeartbeats 0 in
theorem PySem.Challenge.cw_dimhouse_k14_programs_in_order_holds : PySem.Challenge.rw_dimhouse_k14_programs_in_order.Holds := by
  w_on; o_law
  refine HandSHeadRun.head_any (r := OpenLaw.row PySem.Challenge.rw_dimhouse_k14_programs_in_order) (q := view (OpenLaw.row PySem.Challenge.rw_dimhouse_k14_programs_in_order).prog [22]) (H := Lk14.hk) (ob := Lk14.ob) (M := 20000) (loose := Lk14.loose) (d := HandSHeadRun.topDef (OpenLaw.row PySem.Challenge.rw_dimhouse_k14_programs_in_order).prog 22) (kwd := []) Lk14.ob_eq
    (by kernel_rfl) (fun s => by kernel_rfl) Lk14.run (by kernel_rfl) (by kernel_rfl) (by kernel_rfl) (by rfl) (by first | assumption | decide +kernel) (by decide +kernel) ⟨rfl, rfl, rfl, rfl, rfl, by decide +kernel⟩ ?hw ?hc
  case hw => w_witness2
  case hc =>
    refine L2.walk_ofE (l := PySem.Challenge.rw_dimhouse_k14_programs_in_order) (n := 63) (k := 5) (x := "_law_script") (CX := L2.CX0) rfl (by decide) (by kernel_rfl) ⟨rfl, by decide, by decide⟩ ?F (fun _ _ _ _ z => z)
    intro w mg fa h Y G hmg0
    obtain ⟨K, KX, c, e⟩ := Y
    have hmg : mg ("law" : PySem.Str) = some (.ref fa) := by
      have e : (HandSHeadRun.topDef (OpenLaw.row PySem.Challenge.rw_dimhouse_k14_programs_in_order).prog 22).name = ("law" : PySem.Str) := by kernel_rfl
      rw [← e]
      exact hmg0
    obtain ⟨fd, hb, hF⟩ := Lk14.walk_law (P := (PySem.Challenge.rw_dimhouse_k14_programs_in_order).prog) (w := w) KX G hmg c e
    exact ⟨K, fd, Dn.spS K 1 Lk14.F_law, KX, hb, fun H a ns hl _ hS => Dn.spS_law hS (Lk14.law_true ns hl), hF⟩
