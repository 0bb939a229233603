import PyProof.Rows.All
import Wide.All
import OpenK.AllK
import Wide.FinOn
import HandS.ForMost
import HandS.HeadHook1
import KE.KDictCopyH
import HandS.Defaults
import HandS.TupAny
import HandS.IsInst
import HandS.Wide
import HandS.Style
import HandS.TupLen
import HandS.RevRange
import HandS.Deep
import HandS.RaiseMore
import HandS.Conv
import HandS.More
import HandS.Walk
import HandS.Rev
import HandS.Zip
import HandS.NoneIn
import HandS.SortInts
import KE.KStateDown
import HandS.HeadHook2
import HandS.Head0
import HandS.Head1
import HandS.Head2
import HandS.HeadEnd
import HandS.Words
import KE.GoesMore
import KE.GoesEnum
import HandS.Iter
import HandS.Text
import KE.OsArith
import HandS.TryOnly
import HandS.List
import HandS.Replace
import HandS.Set
import KE.KDictDisplayH
import HandS.Head3
import HandS.HeadHook3
import HandS.SetFor
import HandS.SetKeys
import PyProof.P3In
import PyProof.Rows.InDataRows
import PyProof.ListMulRoad
import PyProof.FactsAll.tuple_2
import HandS.TupMul
import HandS.Dict
import HandS.TupSets
import PyProof.StrBlock2
import PyProof.Rows.StrMul
import HandS.RevTup
import PyProof.ListRange
import PyProof.WalksS
import PyProof.WalkInts
import PyProof.ConsumeS
import HandS.SortKw
import OpenK.KMake
import HandS.Call
import HandS.Codes
import HandS.New0
import PyProof.SliceList
import KE.KDictPairs
import KE.KEqDict
import HandS.DictEq
import HandS.DictComp
import HandS.Sort
import KE.GoesZip
import KE.IntTextLaws
import PySem.Challenge.RW_dimhouse_k12_written_and_read
set_option Elab.async false
set_option linter.all false
set_option maxRecDepth 100000
set_option maxHeartbeats 0
namespace Dn
open PySem L2

end Dn

namespace Dn
open PySem L2


end Dn

namespace Dn
open PySem PySem.Spec PyProof.Rows L2


end Dn

namespace Dn
open PySem PySem.Spec PyProof.Rows L2

end Dn

namespace Dn
open PySem PySem.Spec PyProof.Rows L2


end Dn

namespace Dn
open PySem PySem.Spec PyProof.Rows L2

end Dn

namespace Dn
open PySem PySem.Spec PyProof.Rows L2


end Dn

namespace Dn
open PySem PySem.Spec PyProof.Rows L2

end Dn

namespace Dn
open PySem PySem.Spec PyProof.Rows L2


end Dn

namespace Dn
open PySem PySem.Spec PyProof.Rows L2

/-- a module's constant, looked at -/
def tupN (K : PySem.W.Frag) (x : Str) (vs : List He.Dv) : Bool := match K.lookup (He.ga K x) with
  | some ⟨.type c, none, .seq its _, _⟩ => decide (c = "tuple") && (decide (its.size ≤ PySem.sizeLine) && He.relAll (vs.map (He.Dv.v K)) its.toList)
  | _ => false
section
def frees : List He.Fa := [.free "len", .free "isinstance", .free "range", .free "enumerate", .free "list", .free "tuple", .free "str", .free "int", .free "max", .free "min", .free "sum", .free "any", .free "all", .free "sorted", .free "set", .free "reversed", .free "bool", .free "dict", .free "zip", .free "ValueError"]
end
abbrev AlX : Type := He.AlD × Bool
def obsX (n : Nat) (fa : List He.Fa) (fn : List He.DefD) (ex : PySem.W.Frag → Bool) (g : Addr → Option Obj) : AlX := (He.obsD fa fn (He.frG g (He.asD g n)), ex (He.frG g (He.asD g n)))
def hookX (n : Nat) (fa : List He.Fa) (fn : List He.DefD) (ex : PySem.W.Frag → Bool) : PySem.W.Hook where
  α := AlX
  obs := fun s => obsX n fa fn ex s.heap.get?
  val := fun _ => (He.valD fn, true)
  says := fun _ h => ∃ K : PySem.W.Frag, K.In h ∧ He.SaysD fa fn K ∧ ex K = true
  of := fun _ _ e => ⟨_, He.frG_in, congrArg Prod.fst e, congrArg Prod.snd e⟩
  keeps := fun _ _ _ ⟨K, hK, c⟩ k => ⟨K, PySem.W.Frag.In.keeps hK k, c⟩
theorem obsX_eq {n : Nat} {fa : List He.Fa} {fn : List He.DefD} {ex : PySem.W.Frag → Bool} {g : Addr → Option Obj} {s : Shared} (h : ∀ a, g a = s.heap.get? a) : obsX n fa fn ex g = (hookX n fa fn ex).obs s := by
  have e : g = s.heap.get? := funext h
  rw [e] <;> rfl
end Dn

namespace Dn
open PySem PySem.Spec PyProof.Rows L2


end Dn

namespace Dn
open PySem PySem.Spec PyProof.Rows L2
end Dn

namespace Dn
open PySem PySem.Spec PyProof.Rows L2

end Dn

namespace Dn
open PySem PySem.Spec PyProof.Rows L2
end Dn

namespace Dn
open PySem PySem.Spec PyProof.Rows L2
/-- the classes' attributes that instances may have -/
abbrev ATab := List (Str × Str)

def atB (K : PySem.W.Frag) (T : ATab) : Bool := T.all fun p => (He.Fa.cls p.1).ok K && (He.Fa.noat p.1 p.2).ok K
end Dn

namespace Dn
open PySem PySem.Spec PyProof.Rows L2
end Dn

namespace Dn
open PySem PySem.Spec PyProof.Rows L2
end Dn

namespace Dn
open PySem PySem.Spec PyProof.Rows L2
end Dn

namespace Dn
open PySem PySem.Spec PyProof.Rows L2
end Dn

namespace Dn
open PySem PySem.Spec PyProof.Rows L2
end Dn

namespace Dn
open PySem PySem.Spec PyProof.Rows L2
end Dn

namespace Dn
open PySem PySem.Spec PyProof.Rows L2
end Dn

namespace Dn
open PySem PySem.Spec PyProof.Rows L2


end Dn

namespace Dn
open PySem PySem.Spec PyProof.Rows L2

end Dn

namespace Dn
open PySem PySem.Spec PyProof.Rows L2

end Dn

namespace Dn
open PySem PySem.Spec PyProof.Rows L2
end Dn

namespace Dn
open PySem PySem.Spec PyProof.Rows L2
end Dn

namespace Dn
open PySem PySem.Spec PyProof.Rows L2
end Dn

namespace Dn
open PySem PySem.Spec PyProof.Rows L2
end Dn

namespace Dn
open PySem PySem.Spec PyProof.Rows L2


end Dn

namespace Dn
open PySem PySem.Spec PyProof.Rows L2
end Dn

namespace Dn
open PySem PySem.Spec PyProof.Rows L2
end Dn

namespace Dn
open PySem PySem.Spec PyProof.Rows L2
end Dn

namespace Dn
open PySem PySem.Spec PyProof.Rows L2
end Dn

namespace Dn
open PySem PySem.Spec PyProof.Rows L2
end Dn

namespace Dn
open PySem PySem.Spec PyProof.Rows L2
end Dn

namespace RT
open PySem PySem.Spec PyProof.Rows
end RT
namespace Dn
open PySem PySem.Spec PyProof.Rows L2 RT
end Dn

namespace Dn
open PySem PySem.Spec PyProof.Rows L2
end Dn

namespace Dn
open PySem PySem.Spec PyProof.Rows L2
end Dn

namespace Dn
open PySem PySem.Spec PyProof.Rows L2
end Dn

namespace Dn
open PySem PySem.Spec PyProof.Rows L2
end Dn

namespace Dn
open PySem PySem.Spec PyProof.Rows L2
end Dn

namespace Dn
open PySem PySem.Spec PyProof.Rows L2
end Dn

namespace Dn
open PySem PySem.Spec PyProof.Rows L2
end Dn

namespace Dn
open PySem PySem.Spec PyProof.Rows L2
end Dn

namespace Dn
open PySem PySem.Spec PyProof.Rows L2
end Dn

namespace Dn
open PySem PySem.Spec PyProof.Rows L2
end Dn

namespace Dn
open PySem PySem.Spec PyProof.Rows L2
end Dn

namespace Dn
open PySem PySem.Spec PyProof.Rows L2
end Dn

namespace Dn
open PySem PySem.Spec PyProof.Rows L2
end Dn

namespace Dn
open PySem PySem.Spec PyProof.Rows L2
end Dn

namespace Dn
open PySem PySem.Spec PyProof.Rows L2
end Dn

namespace Dn
open PySem PySem.Spec PyProof.Rows L2
end Dn

namespace Dn
open PySem PySem.Spec PyProof.Rows L2
end Dn

namespace Dn
open PySem PySem.Spec PyProof.Rows L2
end Dn

namespace Dn
open PySem PySem.Spec PyProof.Rows L2
end Dn

namespace Dn
open PySem PySem.Spec PyProof.Rows L2
end Dn

namespace Dn
open PySem PySem.Spec PyProof.Rows L2
end Dn

namespace Dn
open PySem PySem.Spec PyProof.Rows L2
end Dn

namespace Dn
open PySem PySem.Spec PyProof.Rows L2
end Dn

namespace Dn
open PySem PySem.Spec PyProof.Rows L2
end Dn

namespace Dn
open PySem PySem.Spec PyProof.Rows L2
end Dn

namespace Dn
open PySem PySem.Spec PyProof.Rows L2
end Dn

namespace Dn
open PySem PySem.Spec PyProof.Rows L2
end Dn

namespace Dn
open PySem PySem.Spec PyProof.Rows L2
end Dn

namespace Dn
open PySem PySem.Spec PyProof.Rows L2
end Dn

namespace Dn
open PySem PySem.Spec PyProof.Rows L2
end Dn

namespace Dn
open PySem PySem.Spec PyProof.Rows L2
end Dn

namespace Dn
open PySem PySem.Spec PyProof.Rows L2
end Dn

namespace Dn
open PySem PySem.Spec PyProof.Rows L2
end Dn

namespace Dn
open PySem PySem.Spec PyProof.Rows L2
end Dn

namespace Dn
open PySem PySem.Spec PyProof.Rows L2
end Dn

namespace Dn
open PySem PySem.Spec PyProof.Rows L2
end Dn

namespace Lk12
open PySem PySem.Spec PyProof.Rows L2 Dn
def top (i : Nat) : Stmt := PySem.Challenge.pw_dimhouse_k12_written_and_read.main.body.getD i (.Pass ⟨0, 0, 0, 0⟩)
def t_SIGNS : List He.Dv := [.str "+", .str "-", .str "*", .str "<", .str "=", .str "&", .str "|", .str "^"]
abbrev s_all_of : Stmt := top 9
abbrev s_is_name : Stmt := top 10
abbrev s_is_label : Stmt := top 11
abbrev s_value_of : Stmt := top 12
abbrev s_atom_of : Stmt := top 13
abbrev s_given_of : Stmt := top 16
abbrev s_forms_of : Stmt := top 17
abbrev s_part_of : Stmt := top 18
abbrev s_row_of : Stmt := top 19
abbrev s_told_of : Stmt := top 20
abbrev s_item_of : Stmt := top 21
abbrev s_items_of : Stmt := top 22
abbrev s_need_once : Stmt := top 23
abbrev s_seats_of : Stmt := top 24
abbrev s_led : Stmt := top 25
abbrev s_read : Stmt := top 26
abbrev s_line_of : Stmt := top 27
abbrev s_write : Stmt := top 28
abbrev s_law_cell : Stmt := top 30
abbrev s_law_part : Stmt := top 31
abbrev s_law_name : Stmt := top 32
abbrev s_law_atom : Stmt := top 33
abbrev s_law_row : Stmt := top 34
abbrev s_law_line : Stmt := top 35
abbrev s_law_program : Stmt := top 36
abbrev s_law_text : Stmt := top 37
abbrev s_law_alike : Stmt := top 38
abbrev s_law_right : Stmt := top 39
abbrev s_law : Stmt := top 40
def AT : ATab := []
def d_all_of : He.DefD := ⟨("all_of", none), "all_of", "all_of", defArgs s_all_of, defBody s_all_of, defScope s_all_of, [], []⟩
def d_is_name : He.DefD := ⟨("is_name", none), "is_name", "is_name", defArgs s_is_name, defBody s_is_name, defScope s_is_name, [], []⟩
def d_is_label : He.DefD := ⟨("is_label", none), "is_label", "is_label", defArgs s_is_label, defBody s_is_label, defScope s_is_label, [], []⟩
def d_value_of : He.DefD := ⟨("value_of", none), "value_of", "value_of", defArgs s_value_of, defBody s_value_of, defScope s_value_of, [], []⟩
def d_atom_of : He.DefD := ⟨("atom_of", none), "atom_of", "atom_of", defArgs s_atom_of, defBody s_atom_of, defScope s_atom_of, [], []⟩
def d_given_of : He.DefD := ⟨("given_of", none), "given_of", "given_of", defArgs s_given_of, defBody s_given_of, defScope s_given_of, [], []⟩
def d_forms_of : He.DefD := ⟨("forms_of", none), "forms_of", "forms_of", defArgs s_forms_of, defBody s_forms_of, defScope s_forms_of, [], []⟩
def d_part_of : He.DefD := ⟨("part_of", none), "part_of", "part_of", defArgs s_part_of, defBody s_part_of, defScope s_part_of, [], []⟩
def d_row_of : He.DefD := ⟨("row_of", none), "row_of", "row_of", defArgs s_row_of, defBody s_row_of, defScope s_row_of, [], []⟩
def d_told_of : He.DefD := ⟨("told_of", none), "told_of", "told_of", defArgs s_told_of, defBody s_told_of, defScope s_told_of, [], []⟩
def d_item_of : He.DefD := ⟨("item_of", none), "item_of", "item_of", defArgs s_item_of, defBody s_item_of, defScope s_item_of, [], []⟩
def d_items_of : He.DefD := ⟨("items_of", none), "items_of", "items_of", defArgs s_items_of, defBody s_items_of, defScope s_items_of, [], []⟩
def d_need_once : He.DefD := ⟨("need_once", none), "need_once", "need_once", defArgs s_need_once, defBody s_need_once, defScope s_need_once, [], []⟩
def d_seats_of : He.DefD := ⟨("seats_of", none), "seats_of", "seats_of", defArgs s_seats_of, defBody s_seats_of, defScope s_seats_of, [], []⟩
def d_led : He.DefD := ⟨("led", none), "led", "led", defArgs s_led, defBody s_led, defScope s_led, [], []⟩
def d_read : He.DefD := ⟨("read", none), "read", "read", defArgs s_read, defBody s_read, defScope s_read, [], []⟩
def d_line_of : He.DefD := ⟨("line_of", none), "line_of", "line_of", defArgs s_line_of, defBody s_line_of, defScope s_line_of, [], []⟩
def d_write : He.DefD := ⟨("write", none), "write", "write", defArgs s_write, defBody s_write, defScope s_write, [], []⟩
def d_law_cell : He.DefD := ⟨("_law_cell", none), "_law_cell", "_law_cell", defArgs s_law_cell, defBody s_law_cell, defScope s_law_cell, [], []⟩
def d_law_part : He.DefD := ⟨("_law_part", none), "_law_part", "_law_part", defArgs s_law_part, defBody s_law_part, defScope s_law_part, [], []⟩
def d_law_name : He.DefD := ⟨("_law_name", none), "_law_name", "_law_name", defArgs s_law_name, defBody s_law_name, defScope s_law_name, [], []⟩
def d_law_atom : He.DefD := ⟨("_law_atom", none), "_law_atom", "_law_atom", defArgs s_law_atom, defBody s_law_atom, defScope s_law_atom, [], []⟩
def d_law_row : He.DefD := ⟨("_law_row", none), "_law_row", "_law_row", defArgs s_law_row, defBody s_law_row, defScope s_law_row, [], []⟩
def d_law_line : He.DefD := ⟨("_law_line", none), "_law_line", "_law_line", defArgs s_law_line, defBody s_law_line, defScope s_law_line, [], []⟩
def d_law_program : He.DefD := ⟨("_law_program", none), "_law_program", "_law_program", defArgs s_law_program, defBody s_law_program, defScope s_law_program, [], []⟩
def d_law_text : He.DefD := ⟨("_law_text", none), "_law_text", "_law_text", defArgs s_law_text, defBody s_law_text, defScope s_law_text, [], []⟩
def d_law_alike : He.DefD := ⟨("_law_alike", none), "_law_alike", "_law_alike", defArgs s_law_alike, defBody s_law_alike, defScope s_law_alike, [], []⟩
def d_law_right : He.DefD := ⟨("_law_right", none), "_law_right", "_law_right", defArgs s_law_right, defBody s_law_right, defScope s_law_right, [], []⟩
def d_law : He.DefD := ⟨("law", none), "law", "law", defArgs s_law, defBody s_law, defScope s_law, [], []⟩
def fn0 : List He.DefD := [d_all_of, d_is_name, d_is_label, d_value_of, d_atom_of, d_given_of, d_forms_of, d_part_of, d_row_of, d_told_of, d_item_of, d_items_of, d_need_once, d_seats_of, d_led, d_read, d_line_of, d_write, d_law_cell, d_law_part, d_law_name, d_law_atom, d_law_row, d_law_line, d_law_program, d_law_text, d_law_alike, d_law_right, d_law]
def fn : List He.DefD := fn0
def fac0 : List He.Fa := [.glo "all_of", .glo "is_name", .glo "is_label", .glo "value_of", .glo "atom_of", .glo "given_of", .glo "forms_of", .glo "part_of", .glo "row_of", .glo "told_of", .glo "item_of", .glo "items_of", .glo "need_once", .glo "seats_of", .glo "led", .glo "read", .glo "line_of", .glo "write", .glo "_law_cell", .glo "_law_part", .glo "_law_name", .glo "_law_atom", .glo "_law_row", .glo "_law_line", .glo "_law_program", .glo "_law_text", .glo "_law_alike", .glo "_law_right", .glo "law", .int "WIDE" (1099511627776)]
def fac1 : List He.Fa := [.str "LETTERS" "abcdefghijklmnopqrstuvwxyz", .str "FIGURES" "0123456789", .glo "SIGNS"]
def fac : List He.Fa := fac0 ++ fac1
def fa : List He.Fa := fac ++ frees
def ex (K : PySem.W.Frag) : Bool := tupN K "SIGNS" t_SIGNS && atB K AT
end Lk12

namespace Lk12
open PySem PySem.Spec PyProof.Rows L2 Dn
/-! ### the head -/
abbrev R : PySem.W.OpenRow := PySem.W.OpenLaw.row PySem.Challenge.rw_dimhouse_k12_written_and_read
abbrev hk : PySem.W.Hook := hookX 4 fa fn ex
def ob (s : PySem.W.SharedT) : AlX := obsX 4 fa fn ex (HandSHeadRun.getT s)
theorem ob_eq (s : PySem.W.SharedT) : ob s = hk.obs s.abs := obsX_eq (HandSHeadRun.getT_eq s)
def lo0 : List Str := ["all_of", "is_name", "is_label", "value_of", "atom_of", "given_of", "forms_of", "part_of", "row_of", "told_of", "item_of", "items_of", "need_once", "seats_of", "led", "read", "line_of", "write", "_law_cell", "_law_part", "_law_name", "_law_atom", "_law_row", "_law_line", "_law_program", "_law_text", "_law_alike", "_law_right", "DimError", "BadLine"]
def lo1 : List Str := ["Twice", "NoLabel", "WIDE", "LETTERS", "FIGURES", "SIGNS"]
def loose : List Str := lo0 ++ lo1
theorem run (w : World) : HandSHeadRun.RunEq R (PySem.W.view R.prog [40]) hk ob 20000 loose w := by
  intro os
  kernel_rfl
end Lk12

/-! A denotation layer over the hand layer: data values, a store of cells, and one rule for each construct. -/
namespace Dn
open PySem L2

/-! ### values -/
inductive LK where
  | own | bor | ext
  deriving DecidableEq
inductive DV where
  | non | bl (b : Bool) | int (i : Int) | str (s : Str)
  | tup (xs : List DV)
  | tupx (xs : List DV)
  | lst (k : LK) (xs : List DV)
  | dik (k : LK) (ks : List Key) (vs : List DV)
  | dit (k : LK) (ks : List (List Key)) (vs : List DV)
  | loc (n : Nat)
/-- a cell of the store -/
inductive Cell where
  | lst (xs : List DV)
  | dik (ks : List Key) (vs : List DV)
  | dit (ks : List (List Key)) (vs : List DV)
  | ins (C : Str) (fs : List (Str × DV))
  | frz (d : DV)
  | lok (ks : List Key) (vs : List DV)
  | lokt (ks : List (List Key)) (vs : List DV)
  | dlf (ks : List (Int × Bool)) (vs : List DV)
  | gone
abbrev Sto := List Cell
def Cell.live : Cell → Bool
  | .frz _ => false
  | .lok _ _ => false
  | .lokt _ _ => false
  | .gone => false
  | _ => true
/-- where data lies: frozen objects G, borrowed ones B, the cells' addresses -/
structure Fm where
  K : PySem.W.Frag
  G : Hp
  B : Hp
  /-- protected: it stays, but no data leans on it -/
  P : Hp
  lm : List Addr
def Fm.free (F : Fm) (a : Addr) : Prop := F.B a = none ∧ F.P a = none

/-- a tuple whose object is known, without a dict of its own -/
def SqN (K : PySem.W.Frag) (H : Hp) (a : Addr) (xs : List V) : Prop :=
  ∃ (o : PySem.Obj) (its : Array PySem.Value) (n : Nat), (H a = some (.frz o (.tup xs)) ∨ (K.lookup a = some o ∧ its.size ≤ PySem.sizeLine)) ∧ o.cls = .type "tuple" ∧ o.dict = none ∧ o.data = .seq its n ∧ Vals xs its.toList
theorem SqN.t {K : PySem.W.Frag} {H : Hp} {a : Addr} {xs : List V} (h : SqN K H a xs) : SqT K H a xs := by
  obtain ⟨o, its, n, h | ⟨h, hz⟩, h1, h2, h3, h4⟩ := h
  · exact .inl (.inr ⟨o, h⟩)
  · exact .inr ⟨o, its, n, h, h1, h3, hz, h4⟩
theorem sqN_same {K : PySem.W.Frag} {H H' : Hp} {a : Addr} {xs : List V} (e : Same H H') (h : SqN K H a xs) : SqN K H' a xs := by
  obtain ⟨o, its, n, h | h, r⟩ := h
  · exact ⟨o, its, n, .inl (e _ _ h), r⟩
  · exact ⟨o, its, n, .inr h, r⟩

mutual
def Rel (F : Fm) : DV → V → Prop
  | .non, v => v = .non
  | .bl b, v => v = .bl b
  | .int i, v => v = .int i
  | .str s, v => v = .str s
  | .tup ds, v => ∃ a xs, v = .ref a ∧ F.G a = some (.tup xs) ∧ RelL F ds xs
  | .tupx ds, v => ∃ a xs, v = .ref a ∧ SqN F.K F.G a xs ∧ RelL F ds xs
  | .lst .own ds, v => ∃ a xs, v = .ref a ∧ F.G a = some (.lst xs) ∧ RelL F ds xs
  | .lst .bor ds, v => ∃ a xs, v = .ref a ∧ (F.B a = some (.lst xs) ∨ F.G a = some (.lst xs)) ∧ RelL F ds xs
  | .lst .ext ds, v => ∃ a xs, v = .ref a ∧ SqL F.K F.G a xs ∧ RelL F ds xs
  | .dik k ks ds, v => ∃ a xs, v = .ref a ∧ ks.length = ds.length ∧ (F.G a = some (.dK (ks.zip xs)) ∨ (k ≠ .own ∧ F.B a = some (.dK (ks.zip xs)))) ∧ RelL F ds xs
  | .dit k ks ds, v => ∃ a xs, v = .ref a ∧ ks.length = ds.length ∧ (F.G a = some (.dT (ks.zip xs)) ∨ (k ≠ .own ∧ F.B a = some (.dT (ks.zip xs)))) ∧ RelL F ds xs
  | .loc n, v => ∃ a, F.lm[n]? = some a ∧ v = .ref a
def RelL (F : Fm) : List DV → List V → Prop
  | [], xs => xs = []
  | d :: ds, xs => ∃ x r, xs = x :: r ∧ Rel F d x ∧ RelL F ds r
end

structure Le (F F' : Fm) : Prop where
  k : F'.K = F.K
  b : F'.B = F.B
  p : F'.P = F.P
  g : Same F.G F'.G
  n : ∀ a o, F'.G a = some o → F.G a = some o ∨ F.free a
  m : F.lm <+: F'.lm
theorem Le.refl (F : Fm) : Le F F := ⟨rfl, rfl, rfl, Same.refl _, fun _ _ h => .inl h, List.prefix_refl _⟩
theorem Le.trans {F F1 F2 : Fm} (a : Le F F1) (b : Le F1 F2) : Le F F2 :=
  ⟨b.k.trans a.k, b.b.trans a.b, b.p.trans a.p, a.g.trans b.g, fun x o h => (b.n x o h).elim (fun h => a.n x o h) fun h => .inr ⟨by rw [← a.b]; exact h.1, by rw [← a.p]; exact h.2⟩, a.m.trans b.m⟩
theorem prefix_get {α : Type} {l l' : List α} (h : l <+: l') {n : Nat} {a : α} (e : l[n]? = some a) : l'[n]? = some a := by
  obtain ⟨t, rfl⟩ := h
  rw [List.getElem?_append_left (List.getElem?_eq_some_iff.mp e).1]
  exact e
theorem sqL_same {K : PySem.W.Frag} {H H' : Hp} {a : Addr} {xs : List V} (e : Same H H') (h : SqL K H a xs) : SqL K H' a xs := e.seq h
theorem sqT_same {K : PySem.W.Frag} {H H' : Hp} {a : Addr} {xs : List V} (e : Same H H') (h : SqT K H a xs) : SqT K H' a xs := by
  rcases h with h | h
  · rcases h with h | ⟨o, h⟩
    · exact .inl (.inl (e _ _ h))
    · exact .inl (.inr ⟨o, e _ _ h⟩)
  · exact .inr h

/-- monotone in all but what is put in and taken out -/
structure Wk (F F' : Fm) : Prop where
  k : F'.K = F.K
  b : Same F.B F'.B
  g : Same F.G F'.G
  m : F.lm <+: F'.lm
theorem Le.wk {F F' : Fm} (h : Le F F') : Wk F F' := ⟨h.k, by rw [h.b]; exact Same.refl _, h.g, h.m⟩
mutual
theorem Rel.wk {F F' : Fm} (w : Wk F F') : ∀ (d : DV) (v : V), Rel F d v → Rel F' d v
  | .non, v, h => h
  | .bl b, v, h => h
  | .int i, v, h => h
  | .str s, v, h => h
  | .tup ds, v, h => by
    obtain ⟨a, xs, e, hs, hl⟩ := h
    exact ⟨a, xs, e, w.g _ _ hs, RelL.wk w ds xs hl⟩
  | .tupx ds, v, h => by
    obtain ⟨a, xs, e, hs, hl⟩ := h
    exact ⟨a, xs, e, by rw [w.k]; exact sqN_same w.g hs, RelL.wk w ds xs hl⟩
  | .lst .own ds, v, h => by
    obtain ⟨a, xs, e, hs, hl⟩ := h
    exact ⟨a, xs, e, w.g _ _ hs, RelL.wk w ds xs hl⟩
  | .lst .bor ds, v, h => by
    obtain ⟨a, xs, e, hs, hl⟩ := h
    exact ⟨a, xs, e, hs.elim (fun h => .inl (w.b _ _ h)) fun h => .inr (w.g _ _ h), RelL.wk w ds xs hl⟩
  | .lst .ext ds, v, h => by
    obtain ⟨a, xs, e, hs, hl⟩ := h
    exact ⟨a, xs, e, by rw [w.k]; exact sqL_same w.g hs, RelL.wk w ds xs hl⟩
  | .dik k ks ds, v, h => by
    obtain ⟨a, xs, e, hn, hs, hl⟩ := h
    exact ⟨a, xs, e, hn, hs.elim (fun h => .inl (w.g _ _ h)) fun h => .inr ⟨h.1, w.b _ _ h.2⟩, RelL.wk w ds xs hl⟩
  | .dit k ks ds, v, h => by
    obtain ⟨a, xs, e, hn, hs, hl⟩ := h
    exact ⟨a, xs, e, hn, hs.elim (fun h => .inl (w.g _ _ h)) fun h => .inr ⟨h.1, w.b _ _ h.2⟩, RelL.wk w ds xs hl⟩
  | .loc n, v, h => by
    obtain ⟨a, e, hv⟩ := h
    exact ⟨a, prefix_get w.m e, hv⟩
theorem RelL.wk {F F' : Fm} (w : Wk F F') : ∀ (ds : List DV) (xs : List V), RelL F ds xs → RelL F' ds xs
  | [], xs, h => h
  | d :: ds, xs, h => by
    obtain ⟨x, r, e, h1, h2⟩ := h
    exact ⟨x, r, e, Rel.wk w d x h1, RelL.wk w ds r h2⟩
end
theorem Rel.le {F F' : Fm} (w : Le F F') {d : DV} {v : V} (h : Rel F d v) : Rel F' d v := Rel.wk w.wk d v h
theorem RelL.le {F F' : Fm} (w : Le F F') {ds : List DV} {vs : List V} (h : RelL F ds vs) : RelL F' ds vs := RelL.wk w.wk ds vs h
theorem RelL.length {F : Fm} : ∀ {ds : List DV} {vs : List V}, RelL F ds vs → ds.length = vs.length
  | [], vs, h => by
    have e : vs = [] := h
    rw [e] <;> rfl
  | d :: ds, vs, h => by
    obtain ⟨x, r, rfl, _, h2⟩ := h
    rw [List.length_cons, List.length_cons, h2.length]
theorem RelL.nil {F : Fm} {vs : List V} (h : RelL F [] vs) : vs = [] := h
theorem RelL.cons {F : Fm} {d : DV} {v : V} {ds : List DV} {vs : List V} (h1 : Rel F d v) (h2 : RelL F ds vs) : RelL F (d :: ds) (v :: vs) := ⟨v, vs, rfl, h1, h2⟩
theorem RelL.get {F : Fm} : ∀ {ds : List DV} {vs : List V} {i : Nat} {d : DV}, RelL F ds vs → ds[i]? = some d → ∃ v, vs[i]? = some v ∧ Rel F d v
  | [], vs, i, d, h, e => by simp at e
  | d0 :: ds, vs, 0, d, h, e => by
    obtain ⟨x, r, rfl, h1, h2⟩ := h
    have e' : d0 = d := by simpa using e
    subst e'
    exact ⟨x, rfl, h1⟩
  | d0 :: ds, vs, i + 1, d, h, e => by
    obtain ⟨x, r, rfl, h1, h2⟩ := h
    obtain ⟨v, e1, e2⟩ := RelL.get (i := i) h2 (by simpa using e)
    exact ⟨v, by simpa using e1, e2⟩
theorem RelL.append {F : Fm} : ∀ {ds es : List DV} {vs us : List V}, RelL F ds vs → RelL F es us → RelL F (ds ++ es) (vs ++ us)
  | [], es, vs, us, h, k => by
    have e : vs = [] := h
    rw [e]
    exact k
  | d :: ds, es, vs, us, h, k => by
    obtain ⟨x, r, rfl, h1, h2⟩ := h
    exact ⟨x, r ++ us, rfl, h1, RelL.append h2 k⟩
theorem RelL.set {F : Fm} {d : DV} {v : V} (r : Rel F d v) : ∀ {ds : List DV} {vs : List V} (i : Nat), RelL F ds vs → RelL F (ds.set i d) (vs.set i v)
  | [], vs, i, h => by
    have e : vs = [] := h
    rw [e]
    exact rfl
  | d0 :: ds, vs, 0, h => by
    obtain ⟨x, r', rfl, h1, h2⟩ := h
    exact ⟨v, r', rfl, r, h2⟩
  | d0 :: ds, vs, i + 1, h => by
    obtain ⟨x, r', rfl, h1, h2⟩ := h
    exact ⟨x, r'.set i v, rfl, h1, RelL.set r i h2⟩
theorem RelL.take {F : Fm} : ∀ {ds : List DV} {vs : List V} (n : Nat), RelL F ds vs → RelL F (ds.take n) (vs.take n)
  | [], vs, n, h => by
    have e : vs = [] := h
    rw [e, List.take_nil, List.take_nil]
    exact rfl
  | d0 :: ds, vs, 0, h => by
    rw [List.take_zero, List.take_zero]
    exact rfl
  | d0 :: ds, vs, n + 1, h => by
    obtain ⟨x, r', rfl, h1, h2⟩ := h
    exact ⟨x, r'.take n, rfl, h1, RelL.take n h2⟩
theorem RelL.drop {F : Fm} : ∀ {ds : List DV} {vs : List V} (n : Nat), RelL F ds vs → RelL F (ds.drop n) (vs.drop n)
  | [], vs, n, h => by
    have e : vs = [] := h
    rw [e, List.drop_nil, List.drop_nil]
    exact rfl
  | d0 :: ds, vs, 0, h => h
  | d0 :: ds, vs, n + 1, h => by
    obtain ⟨x, r', rfl, h1, h2⟩ := h
    exact RelL.drop n h2
/-! ### worlds -/
/-- a key (number, truth) -/
def lfK (k : Int × Bool) : List PySem.Leaf := [.num k.1, .num (if k.2 = true then 1 else 0)]
def lfD (k : Int × Bool) : DV := .tup [.int k.1, .bl k.2]
/-- an entry: the key, where its tuple stands, what is kept -/
abbrev LfE : Type := (Int × Bool) × Addr × V × Value
def LfE.raw (e : LfE) : List PySem.Leaf × Addr × Value := (lfK e.1, e.2.1, e.2.2.2)
def DLf (a : Addr) (xs : List (List PySem.Leaf × Addr × Value)) (h : Heap) : Prop :=
  (a == sysModules) = false ∧ xs.length ≤ sizeLine ∧ (xs.map (·.1)).Nodup ∧
    ∃ o es ep, h.get? a = some o ∧ o.ExactDict ∧ o.data = .dict es ep ∧ ∀ (P : Program) (w : World), es.toList = xs.map (entryOfKey (tupleKind (PySem.leafKind P w)))
def CellOk (F : Fm) (H : Hp) (a : Addr) : Cell → Prop
  | .lst ds => ∃ xs, H a = some (.lst xs) ∧ RelL F ds xs
  | .dik ks ds => ∃ xs, ks.length = ds.length ∧ H a = some (.dK (ks.zip xs)) ∧ RelL F ds xs
  | .dit ks ds => ∃ xs, ks.length = ds.length ∧ H a = some (.dT (ks.zip xs)) ∧ RelL F ds xs
  | .ins C fs => ∃ dx xs, H a = some (.ins (He.ga F.K C) dx ((fs.map (·.1)).zip xs)) ∧ RelL F (fs.map (·.2)) xs
  | .frz d => Rel F d (.ref a)
  | .lok ks ds => ∃ o xs, ks.length = ds.length ∧ F.P a = some (.frz o (.dK (ks.zip xs))) ∧ RelL F ds xs
  | .lokt ks ds => ∃ o xs, ks.length = ds.length ∧ F.P a = some (.frz o (.dT (ks.zip xs))) ∧ RelL F ds xs
  | .dlf ks ds => ∃ es : List LfE, H a = some (.ext (DLf a (es.map LfE.raw))) ∧ es.map (·.1) = ks ∧ RelL F (ks.map lfD) (es.map fun e => V.ref e.2.1) ∧ RelL F ds (es.map (·.2.2.1)) ∧ ∀ e ∈ es, RelV e.2.2.1 e.2.2.2
  | .gone => True
/-- what is locked stays locked -/
def PF (F F' : Fm) : Prop := ∀ a o u, F.P a = some (.frz o u) → F'.P a = some (.frz o u)
theorem Le.pf {F F' : Fm} (h : Le F F') : PF F F' := fun a o u e => by rw [h.p]; exact e
structure Rep (F : Fm) (S : Sto) (H : Hp) : Prop where
  g : Same F.G H
  b : Same F.B H
  p : Same F.P H
  tup : ∀ a xs, H a = some (.tup xs) → F.G a = some (.tup xs)
  len : F.lm.length = S.length
  cell : ∀ (n : Nat) (c : Cell) (a : Addr), S[n]? = some c → F.lm[n]? = some a → CellOk F H a c ∧ (c.live = true → F.G a = none ∧ F.free a)
  inj : ∀ (n m : Nat) (c c' : Cell) (a : Addr), S[n]? = some c → S[m]? = some c' → c.live = true → c'.live = true → F.lm[n]? = some a → F.lm[m]? = some a → n = m

theorem CellOk.wk {F F' : Fm} (w : Wk F F') (pf : PF F F') {H H' : Hp} {a : Addr} : ∀ {c : Cell}, CellOk F H a c → (c.live = true → H' a = H a) → CellOk F' H' a c
  | .lst ds, ⟨xs, e, r⟩, h => ⟨xs, (h rfl).trans e, RelL.wk w _ _ r⟩
  | .dik ks ds, ⟨xs, z, e, r⟩, h => ⟨xs, z, (h rfl).trans e, RelL.wk w _ _ r⟩
  | .dit ks ds, ⟨xs, z, e, r⟩, h => ⟨xs, z, (h rfl).trans e, RelL.wk w _ _ r⟩
  | .ins C fs, ⟨dx, xs, e, r⟩, h => ⟨dx, xs, by rw [w.k]; exact (h rfl).trans e, RelL.wk w _ _ r⟩
  | .frz d, r, _ => Rel.wk w _ _ r
  | .lok ks ds, ⟨o, xs, z, e, r⟩, _ => ⟨o, xs, z, pf _ _ _ e, RelL.wk w _ _ r⟩
  | .lokt ks ds, ⟨o, xs, z, e, r⟩, _ => ⟨o, xs, z, pf _ _ _ e, RelL.wk w _ _ r⟩
  | .dlf ks ds, ⟨es, e, z, r1, r2, t⟩, h => ⟨es, (h rfl).trans e, z, RelL.wk w _ _ r1, RelL.wk w _ _ r2, t⟩
  | .gone, _, _ => trivial
theorem CellOk.some {F : Fm} {H : Hp} {a : Addr} : ∀ {c : Cell}, CellOk F H a c → c.live = true → ∃ o, H a = some o ∧ ∀ xs, o ≠ .tup xs
  | .lst ds, ⟨xs, e, r⟩, _ => ⟨_, e, fun _ q => nomatch q⟩
  | .dik ks ds, ⟨xs, z, e, r⟩, _ => ⟨_, e, fun _ q => nomatch q⟩
  | .dit ks ds, ⟨xs, z, e, r⟩, _ => ⟨_, e, fun _ q => nomatch q⟩
  | .ins C fs, ⟨dx, xs, e, r⟩, _ => ⟨_, e, fun _ q => nomatch q⟩
  | .frz d, r, h => nomatch h
  | .lok _ _, r, h => nomatch h
  | .lokt _ _, r, h => nomatch h
  | .dlf ks ds, ⟨es, e, z, r1, r2, t⟩, _ => ⟨_, e, fun _ q => nomatch q⟩
  | .gone, _, h => nomatch h
theorem Rep.at {F : Fm} {S : Sto} {H : Hp} (R : Rep F S H) {n : Nat} {c : Cell} (h : S[n]? = some c) : ∃ a, F.lm[n]? = some a ∧ CellOk F H a c ∧ (c.live = true → F.G a = none ∧ F.free a) := by
  have h1 := (List.getElem?_eq_some_iff.mp h).1
  have e : F.lm[n]? = some (F.lm[n]'(by rw [R.len]; exact h1)) := List.getElem?_eq_getElem _
  exact ⟨_, e, R.cell n c _ h e⟩
theorem same_new {H : Hp} {p : Addr} {o : HO} (h : H p = none) : Same H (upd H p o) := fun a u e => by
  rw [upd_ne (ne_of_none e h)]
  exact e
theorem same_mono {G H : Hp} (s : Same G H) {p : Addr} {o : HO} (h : G p = none) : Same G (upd H p o) := fun a u e => by
  rw [upd_ne (ne_of_none e h)]
  exact s _ _ e
theorem Same.none {G H : Hp} (s : Same G H) {p : Addr} (h : H p = none) : G p = none := s.free h

/-- a new frozen object -/
abbrev Fm.add (F : Fm) (p : Addr) (o : HO) : Fm := { F with G := upd F.G p o }
theorem Fm.add_le {F : Fm} {p : Addr} {o : HO} (h : F.G p = none) (hb : F.free p) : Le F (F.add p o) :=
  ⟨rfl, rfl, rfl, same_new h, fun a u e => by
    by_cases q : a = p
    · exact .inr (by rw [q]; exact hb)
    · have e2 : upd F.G p o a = some u := e
      rw [upd_ne q] at e2
      exact .inl e2, List.prefix_refl _⟩
theorem Rep.add {F : Fm} {S : Sto} {H : Hp} (R : Rep F S H) {p : Addr} {o : HO} (hp : H p = none) : Rep (F.add p o) S (upd H p o) ∧ Le F (F.add p o) := by
  have gp : F.G p = none := R.g.free hp
  have bp : F.free p := ⟨R.b.free hp, R.p.free hp⟩
  have le := Fm.add_le (F := F) (o := o) gp bp
  refine ⟨⟨fun a u e => ?_, same_mono R.b bp.1, same_mono R.p bp.2, fun a xs e => ?_, R.len, fun n c a h e => ?_, R.inj⟩, le⟩
  · by_cases q : a = p
    · subst q
      have e2 : upd F.G a o a = some u := e
      rw [upd_same] at e2 ⊢
      exact e2
    · have e2 : upd F.G p o a = some u := e
      rw [upd_ne q] at e2 ⊢
      exact R.g _ _ e2
  · show upd F.G p o a = _
    by_cases q : a = p
    · subst q
      rw [upd_same] at e ⊢
      exact e
    · rw [upd_ne q] at e ⊢
      exact R.tup _ _ e
  · obtain ⟨k1, k2⟩ := R.cell n c a h e
    refine ⟨k1.wk le.wk le.pf fun hl => ?_, fun hl => ?_⟩
    · obtain ⟨o', e', _⟩ := k1.some hl
      exact upd_ne (ne_of_none e' hp)
    · obtain ⟨o', e', _⟩ := k1.some hl
      refine ⟨?_, (k2 hl).2⟩
      show upd F.G p o a = none
      rw [upd_ne (ne_of_none e' hp)]
      exact (k2 hl).1
/-- a new object beside all this -/
theorem Rep.beside {F : Fm} {S : Sto} {H : Hp} (R : Rep F S H) {p : Addr} {o : HO} (hp : H p = none) (ht : ∀ xs, o ≠ .tup xs) : Rep F S (upd H p o) := by
  have gp : F.G p = none := R.g.free hp
  have bp : F.B p = none := R.b.free hp
  refine ⟨same_mono R.g gp, same_mono R.b bp, same_mono R.p (R.p.free hp), fun a xs e => ?_, R.len, fun n c a h e => ?_, R.inj⟩
  · by_cases q : a = p
    · subst q
      rw [upd_same] at e
      exact absurd (Option.some.inj e) (ht xs)
    · rw [upd_ne q] at e
      exact R.tup _ _ e
  · obtain ⟨k1, k2⟩ := R.cell n c a h e
    refine ⟨k1.wk (Le.refl F).wk (Le.refl F).pf fun hl => ?_, k2⟩
    obtain ⟨o', e', _⟩ := k1.some hl
    exact upd_ne (ne_of_none e' hp)
/-- a new cell for an object that is beside all this -/
abbrev Fm.cell (F : Fm) (p : Addr) : Fm := { F with lm := F.lm ++ [p] }
theorem Fm.cell_le (F : Fm) (p : Addr) : Le F (F.cell p) := ⟨rfl, rfl, rfl, Same.refl _, fun _ _ h => .inl h, List.prefix_append _ _⟩
theorem get_snoc {α : Type} {l : List α} {x y : α} {n : Nat} (h : (l ++ [x])[n]? = some y) : l[n]? = some y ∨ (n = l.length ∧ y = x) := by
  by_cases q : n < l.length
  · rw [List.getElem?_append_left q] at h
    exact .inl h
  · rw [List.getElem?_append_right (by omega)] at h
    by_cases q2 : n - l.length = 0
    · rw [q2] at h
      exact .inr ⟨by omega, (Option.some.inj h).symm⟩
    · rw [List.getElem?_eq_none (by simp; omega)] at h
      cases h
theorem Rep.cell_new {F : Fm} {S : Sto} {H : Hp} (R : Rep F S H) {p : Addr} {c : Cell} (hc : CellOk (F.cell p) H p c) (gp : F.G p = none) (bp : F.free p)
    (hn : ∀ (n : Nat) (c : Cell), S[n]? = some c → c.live = true → F.lm[n]? ≠ some p) : Rep (F.cell p) (S ++ [c]) H := by
  refine ⟨R.g, R.b, R.p, R.tup, by simp [R.len], fun n c' a h e => ?_, fun n m c1 c2 a h1 h2 l1 l2 e1 e2 => ?_⟩
  · rcases get_snoc h with h | ⟨hn2, hh⟩
    · have hlt := (List.getElem?_eq_some_iff.mp h).1
      have e' : F.lm[n]? = some a := by
        have e0 : (F.lm ++ [p])[n]? = some a := e
        rw [List.getElem?_append_left (by rw [R.len]; exact hlt)] at e0
        exact e0
      obtain ⟨k1, k2⟩ := R.cell n c' a h e'
      exact ⟨k1.wk (F.cell_le p).wk (F.cell_le p).pf fun _ => rfl, k2⟩
    · subst hh
      have e0 : (F.lm ++ [p])[n]? = some a := e
      rw [hn2, ← R.len] at e0
      simp at e0
      subst e0
      exact ⟨hc, fun _ => ⟨gp, bp⟩⟩
  · have r1 : ∀ {n : Nat} {c : Cell}, (S ++ [c])[n]? = some c → True := fun _ => trivial
    have e1' : (F.lm ++ [p])[n]? = some a := e1
    have e2' : (F.lm ++ [p])[m]? = some a := e2
    have old : ∀ {n : Nat} {c' : Cell}, S[n]? = some c' → (F.lm ++ [p])[n]? = some a → F.lm[n]? = some a := fun {n c'} h e0 => by
      rw [List.getElem?_append_left (by rw [R.len]; exact (List.getElem?_eq_some_iff.mp h).1)] at e0
      exact e0
    have new : ∀ {n : Nat}, n = S.length → (F.lm ++ [p])[n]? = some a → a = p := fun {n} h e0 => by
      rw [h, ← R.len] at e0
      simp at e0
      exact e0.symm
    rcases get_snoc h1 with h1 | ⟨h1, hh1⟩
    · rcases get_snoc h2 with h2 | ⟨h2, hh2⟩
      · exact R.inj n m c1 c2 a h1 h2 l1 l2 (old h1 e1') (old h2 e2')
      · have := new h2 e2'
        subst this
        exact absurd (old h1 e1') (hn n c1 h1 l1)
    · rcases get_snoc h2 with h2 | ⟨h2, hh2⟩
      · have := new h1 e1'
        subst this
        exact absurd (old h2 e2') (hn m c2 h2 l2)
      · rw [h1, h2]
theorem Rep.noCell {F : Fm} {S : Sto} {H : Hp} (R : Rep F S H) {p : Addr} (hp : H p = none) : ∀ (n : Nat) (c : Cell), S[n]? = some c → c.live = true → F.lm[n]? ≠ some p := fun n c h l e => by
  obtain ⟨k1, _⟩ := R.cell n c p h e
  obtain ⟨o, e', _⟩ := k1.some l
  rw [hp] at e'
  cases e'
theorem Rep.alloc {F : Fm} {S : Sto} {H : Hp} (R : Rep F S H) {p : Addr} {o : HO} {c : Cell} (hp : H p = none) (ht : ∀ xs, o ≠ .tup xs) (hc : CellOk (F.cell p) (upd H p o) p c) : Rep (F.cell p) (S ++ [c]) (upd H p o) :=
  (R.beside hp ht).cell_new hc (R.g.free hp) ⟨R.b.free hp, R.p.free hp⟩ (R.noCell hp)
/-- a live cell is written -/
theorem Rep.write {F : Fm} {S : Sto} {H : Hp} (R : Rep F S H) {n : Nat} {c c' : Cell} {a : Addr} {o : HO} (h : S[n]? = some c) (l : c.live = true) (e : F.lm[n]? = some a) (ht : ∀ xs, o ≠ .tup xs) (l' : c'.live = true)
    (hc : CellOk F (upd H a o) a c') : Rep F (S.set n c') (upd H a o) := by
  obtain ⟨k1, k2⟩ := R.cell n c a h e
  obtain ⟨ga, ba⟩ := k2 l
  obtain ⟨o0, e0, t0⟩ := k1.some l
  have hlt := (List.getElem?_eq_some_iff.mp h).1
  refine ⟨same_mono R.g ga, same_mono R.b ba.1, same_mono R.p ba.2, fun b xs q => ?_, by simp [R.len], fun m cm b hm em => ?_, fun m1 m2 c1 c2 b h1 h2 l1 l2 e1 e2 => ?_⟩
  · by_cases z : b = a
    · subst z
      rw [upd_same] at q
      exact absurd (Option.some.inj q) (ht xs)
    · rw [upd_ne z] at q
      exact R.tup _ _ q
  · by_cases z : m = n
    · subst z
      rw [List.getElem?_set_self hlt] at hm
      cases hm
      rw [e] at em
      cases em
      exact ⟨hc, fun _ => ⟨ga, ba⟩⟩
    · rw [List.getElem?_set_ne (fun q => z q.symm)] at hm
      obtain ⟨j1, j2⟩ := R.cell m cm b hm em
      refine ⟨j1.wk (Le.refl F).wk (Le.refl F).pf fun lm => ?_, j2⟩
      refine upd_ne fun q => ?_
      subst q
      exact z (R.inj m n cm c b hm h lm l em e)
  · have old : ∀ {m : Nat} {cm : Cell}, (S.set n c')[m]? = some cm → cm.live = true → ∃ cm', S[m]? = some cm' ∧ cm'.live = true := fun {m cm} hm lm => by
      by_cases z : m = n
      · subst z
        exact ⟨c, h, l⟩
      · rw [List.getElem?_set_ne (fun q => z q.symm)] at hm
        exact ⟨cm, hm, lm⟩
    obtain ⟨d1, x1, y1⟩ := old h1 l1
    obtain ⟨d2, x2, y2⟩ := old h2 l2
    exact R.inj m1 m2 d1 d2 b x1 x2 y1 y2 e1 e2
end Dn

namespace Dn
open PySem L2

/-! ### readings by denotations -/
abbrev Ev := List (Option DV)
abbrev DE := Ev → Sto → Option (DV × Sto)
abbrev DA := Ev → Sto → Option (List DV × Sto)
abbrev DG := DV → Ev → Sto → Option (Ev × Sto)
inductive Out where
  | nx (ρ : Ev) (S : Sto)
  | rt (d : DV) (S : Sto)
  | bk (ρ : Ev) (S : Sto)
  | ct (ρ : Ev) (S : Sto)
def Out.S : Out → Sto
  | .nx _ S => S
  | .rt _ S => S
  | .bk _ S => S
  | .ct _ S => S
abbrev DS := Ev → Sto → Option Out
structure RelE (F : Fm) (ρ : Ev) (σ : St) : Prop where
  len : ρ.length = σ.length
  at_ : ∀ (i : Nat) (d : DV), ρ[i]? = some (some d) → ∃ v, σ[i]? = some (some v) ∧ Rel F d v
theorem RelE.wk {F F' : Fm} (w : Wk F F') {ρ : Ev} {σ : St} (r : RelE F ρ σ) : RelE F' ρ σ := ⟨r.len, fun i d e => by
  obtain ⟨v, h1, h2⟩ := r.at_ i d e
  exact ⟨v, h1, Rel.wk w _ _ h2⟩⟩
theorem RelE.le {F F' : Fm} (w : Le F F') {ρ : Ev} {σ : St} (r : RelE F ρ σ) : RelE F' ρ σ := r.wk w.wk
theorem RelE.set {F : Fm} {ρ : Ev} {σ : St} (r : RelE F ρ σ) (i : Nat) {d : DV} {v : V} (h : Rel F d v) : RelE F (ρ.set i (some d)) (σ.set i (some v)) := by
  refine ⟨by simp [r.len], fun j e hj => ?_⟩
  by_cases q : j = i
  · subst q
    have hlt := (List.getElem?_eq_some_iff.mp hj).1
    rw [List.length_set] at hlt
    rw [List.getElem?_set_self hlt] at hj
    cases hj
    exact ⟨v, List.getElem?_set_self (by rw [← r.len]; exact hlt), h⟩
  · rw [List.getElem?_set_ne (fun z => q z.symm)] at hj
    rw [List.getElem?_set_ne (fun z => q z.symm)]
    exact r.at_ j e hj
def PostE (F : Fm) (S : Sto) (d : DV) (Q : VK) : Prop := ∀ F' H' v, Le F F' → Rep F' S H' → Rel F' d v → Q v H'
def PostT (F : Fm) (S : Sto) (b : Bool) (Q : Bool → Hp → Prop) : Prop := ∀ F' H', Le F F' → Rep F' S H' → Q b H'
def PostA (F : Fm) (S : Sto) (ds : List DV) (Q : List V → Hp → Prop) : Prop := ∀ F' H' vs, Le F F' → Rep F' S H' → RelL F' ds vs → Q vs H'
def PostO (F : Fm) (D : Ends) (H : Hp) : Out → Prop
  | .nx ρ _ => ∀ σ, RelE F ρ σ → D.nx σ H
  | .rt d _ => ∀ v, Rel F d v → D.rt v H
  | .bk ρ _ => ∀ σ, RelE F ρ σ → D.bk σ H
  | .ct ρ _ => ∀ σ, RelE F ρ σ → D.ct σ H
def PostS (F : Fm) (o : Out) (D : Ends) : Prop := ∀ F' H', Le F F' → Rep F' o.S H' → PostO F' D H' o
theorem PostE.le {F F' : Fm} {S : Sto} {d : DV} {Q : VK} (h : PostE F S d Q) (w : Le F F') : PostE F' S d Q := fun F2 H2 v w2 => h F2 H2 v (w.trans w2)
theorem PostS.le {F F' : Fm} {o : Out} {D : Ends} (h : PostS F o D) (w : Le F F') : PostS F' o D := fun F2 H2 w2 => h F2 H2 (w.trans w2)
def rdE (K : PySem.W.Frag) (f : DE) : TE := fun σ H Q => ∃ F S ρ d S', F.K = K ∧ Rep F S H ∧ RelE F ρ σ ∧ f ρ S = some (d, S') ∧ PostE F S' d Q
def rdT (K : PySem.W.Frag) (f : DE) : TT := fun σ H Q => ∃ F S ρ b S', F.K = K ∧ Rep F S H ∧ RelE F ρ σ ∧ f ρ S = some (.bl b, S') ∧ PostT F S' b Q
def rdA (K : PySem.W.Frag) (f : DA) : TA := fun σ H Q => ∃ F S ρ ds S', F.K = K ∧ Rep F S H ∧ RelE F ρ σ ∧ f ρ S = some (ds, S') ∧ PostA F S' ds Q
def rdS (K : PySem.W.Frag) (f : DS) : TS := fun D σ H => ∃ F S ρ o, F.K = K ∧ Rep F S H ∧ RelE F ρ σ ∧ f ρ S = some o ∧ PostS F o D
def rdG (K : PySem.W.Frag) (g : DG) : TG := fun v σ H Q => ∃ F S ρ d ρ' S', F.K = K ∧ Rep F S H ∧ RelE F ρ σ ∧ Rel F d v ∧ g d ρ S = some (ρ', S') ∧ ∀ F' H' σ', Le F F' → Rep F' S' H' → RelE F' ρ' σ' → Q σ' H'
structure ED (X : Cx) (e : Expr) (f : DE) : Prop where
  pe : PE X e (rdE X.K f)
structure TD (X : Cx) (e : Expr) (f : DE) : Prop where
  pt : PT X e (rdT X.K f)
structure TDW (X : Cx) (e : Expr) (f : DE) : Prop where
  pw : PW X e (rdT X.K f)
structure AD (X : Cx) (es : List Expr) (f : DA) : Prop where
  pa : PA X es (rdA X.K f)
structure SD (X : Cx) (st : Stmt) (f : DS) : Prop where
  ps : PS X st (rdS X.K f)
structure SDs (X : Cx) (st : List Stmt) (f : DS) : Prop where
  ps : PSs X st (rdS X.K f)
structure GD (X : Cx) (e : Expr) (g : DG) : Prop where
  pg : PG X e (rdG X.K g)
section
variable {X : Cx} {e : Expr}
theorem ED.of {t : TE} {f : DE} (h : PE X e t) (m : ∀ F S H ρ σ d S' Q, F.K = X.K → Rep F S H → RelE F ρ σ → f ρ S = some (d, S') → PostE F S' d Q → t σ H Q) : ED X e f :=
  ⟨⟨fun pins s σ H Q I ⟨F, S, ρ, d, S', hk, R, r, hf, hq⟩ => h.run pins s σ H Q I (m F S H ρ σ d S' Q hk R r hf hq)⟩⟩
theorem TD.of {t : TT} {f : DE} (h : PT X e t) (m : ∀ F S H ρ σ b S' Q, F.K = X.K → Rep F S H → RelE F ρ σ → f ρ S = some (.bl b, S') → PostT F S' b Q → t σ H Q) : TD X e f :=
  ⟨⟨fun pins s σ H Q I ⟨F, S, ρ, d, S', hk, R, r, hf, hq⟩ => h.run pins s σ H Q I (m F S H ρ σ d S' Q hk R r hf hq)⟩⟩
theorem TDW.of {t : TT} {f : DE} (h : PW X e t) (m : ∀ F S H ρ σ b S' Q, F.K = X.K → Rep F S H → RelE F ρ σ → f ρ S = some (.bl b, S') → PostT F S' b Q → t σ H Q) : TDW X e f :=
  ⟨⟨fun whole pins s σ H Q I ⟨F, S, ρ, d, S', hk, R, r, hf, hq⟩ => h.run whole pins s σ H Q I (m F S H ρ σ d S' Q hk R r hf hq)⟩⟩
theorem AD.of {es : List Expr} {t : TA} {f : DA} (h : PA X es t) (m : ∀ F S H ρ σ d S' Q, F.K = X.K → Rep F S H → RelE F ρ σ → f ρ S = some (d, S') → PostA F S' d Q → t σ H Q) : AD X es f :=
  ⟨⟨fun pos pins s σ H Q I ⟨F, S, ρ, d, S', hk, R, r, hf, hq⟩ => h.run pos pins s σ H Q I (m F S H ρ σ d S' Q hk R r hf hq)⟩⟩
theorem SD.of {st : Stmt} {t : TS} {f : DS} (h : PS X st t) (m : ∀ F S H ρ σ o D, F.K = X.K → Rep F S H → RelE F ρ σ → f ρ S = some o → PostS F o D → t D σ H) : SD X st f :=
  ⟨⟨fun pins s σ H D I ⟨F, S, ρ, o, hk, R, r, hf, hq⟩ => h.run pins s σ H D I (m F S H ρ σ o D hk R r hf hq)⟩⟩
theorem SDs.of {st : List Stmt} {t : TS} {f : DS} (h : PSs X st t) (m : ∀ F S H ρ σ o D, F.K = X.K → Rep F S H → RelE F ρ σ → f ρ S = some o → PostS F o D → t D σ H) : SDs X st f :=
  ⟨⟨fun pins s σ H D I ⟨F, S, ρ, o, hk, R, r, hf, hq⟩ => h.run pins s σ H D I (m F S H ρ σ o D hk R r hf hq)⟩⟩
theorem GD.of {t : TG} {g : DG} (h : PG X e t) (m : ∀ F S H ρ σ d v ρ' S' Q, F.K = X.K → Rep F S H → RelE F ρ σ → Rel F d v → g d ρ S = some (ρ', S') → (∀ F' H' σ', Le F F' → Rep F' S' H' → RelE F' ρ' σ' → Q σ' H') → t v σ H Q) : GD X e g :=
  ⟨⟨fun pins s σ H v u Q I rv ⟨F, S, ρ, d, ρ', S', hk, R, r, rd, hf, hq⟩ => h.run pins s σ H v u Q I rv (m F S H ρ σ d v ρ' S' Q hk R r rd hf hq)⟩⟩
end
section
variable {K : PySem.W.Frag} {F : Fm} {S S' S1 : Sto} {H : Hp} {ρ : Ev} {σ : St} {d : DV} {Q : VK}
/-- a part is run: what is behind it -/
theorem rdE.go {f : DE} (hk : F.K = K) (R : Rep F S H) (r : RelE F ρ σ) (hf : f ρ S = some (d, S1)) (k : ∀ F' H' v, Le F F' → F'.K = K → Rep F' S1 H' → RelE F' ρ σ → Rel F' d v → Q v H') : rdE K f σ H Q :=
  ⟨F, S, ρ, d, S1, hk, R, r, hf, fun F' H' v le R' r' => k F' H' v le (le.k.trans hk) R' (r.le le) r'⟩
theorem rdT.go {f : DE} {b : Bool} {Q : Bool → Hp → Prop} (hk : F.K = K) (R : Rep F S H) (r : RelE F ρ σ) (hf : f ρ S = some (.bl b, S1)) (k : ∀ F' H', Le F F' → F'.K = K → Rep F' S1 H' → RelE F' ρ σ → Q b H') : rdT K f σ H Q :=
  ⟨F, S, ρ, b, S1, hk, R, r, hf, fun F' H' le R' => k F' H' le (le.k.trans hk) R' (r.le le)⟩
theorem rdA.go {f : DA} {ds : List DV} {Q : List V → Hp → Prop} (hk : F.K = K) (R : Rep F S H) (r : RelE F ρ σ) (hf : f ρ S = some (ds, S1)) (k : ∀ F' H' vs, Le F F' → F'.K = K → Rep F' S1 H' → RelE F' ρ σ → RelL F' ds vs → Q vs H') : rdA K f σ H Q :=
  ⟨F, S, ρ, ds, S1, hk, R, r, hf, fun F' H' v le R' r' => k F' H' v le (le.k.trans hk) R' (r.le le) r'⟩
end

/-! ### names, constants -/
section
variable {X : Cx} {e a b : Expr} {pos : Pos}
def dVar (i : Nat) : DE := fun ρ S => match ρ[i]? with
  | some (some d) => some (d, S)
  | _ => none
theorem dVar_some {i : Nat} {ρ : Ev} {S : Sto} {d : DV} {S' : Sto} (h : dVar i ρ S = some (d, S')) : ρ[i]? = some (some d) ∧ S' = S := by
  unfold dVar at h
  split at h
  · rename_i d' e
    cases h
    exact ⟨e, rfl⟩
  · cases h
theorem ed_var {i : Nat} (h : PE X e (tVar i)) : ED X e (dVar i) := .of h fun F S H ρ σ d S' Q hk R r hf hq => by
  obtain ⟨h1, rfl⟩ := dVar_some hf
  obtain ⟨v, e1, e2⟩ := r.at_ i d h1
  exact ⟨v, e1, hq F H v (.refl F) R e2⟩
def dC (d : DV) : DE := fun _ S => some (d, S)
theorem ed_c {d : DV} {v : V} (h : PE X e (tC v)) (hr : ∀ F : Fm, Rel F d v) : ED X e (dC d) := .of h fun F S H ρ σ d' S' Q hk R r hf hq => by
  have e : some (d, S) = some (d', S') := hf
  cases e
  exact hq F H v (.refl F) R (hr F)
theorem ed_int {i : Int} {j : Nat} : ED X (.Constant (.int i) j pos) (dC (.int i)) := ed_c pe_int fun _ => rfl
theorem ed_bl {i : Bool} {j : Nat} : ED X (.Constant (.bool i) j pos) (dC (.bl i)) := ed_c pe_bl fun _ => rfl
theorem ed_non {j : Nat} : ED X (.Constant .none j pos) (dC .non) := ed_c pe_non fun _ => rfl
theorem ed_str {i : Str} {j : Nat} : ED X (.Constant (.str i) j pos) (dC (.str i)) := ed_c pe_str fun _ => rfl

/-! ### operators -/
abbrev P1 := DV → Sto → Option (DV × Sto)
abbrev P2 := DV → DV → Sto → Option (DV × Sto)
abbrev PL := List DV → Sto → Option (DV × Sto)
def dUn (p : P1) (f : DE) : DE := fun ρ S => match f ρ S with
  | some (x, S1) => p x S1
  | none => none
def dBin (p : P2) (f g : DE) : DE := fun ρ S => match f ρ S with
  | some (x, S1) => (match g ρ S1 with
    | some (y, S2) => p x y S2
    | none => none)
  | none => none
def Ok1 (K : PySem.W.Frag) (p : P1) (r : V → Hp → VK → Prop) : Prop := ∀ F S H x vx d S' Q, F.K = K → Rep F S H → Rel F x vx → p x S = some (d, S') → PostE F S' d Q → r vx H Q
def Ok2 (K : PySem.W.Frag) (p : P2) (r : R2) : Prop := ∀ F S H x y vx vy d S' Q, F.K = K → Rep F S H → Rel F x vx → Rel F y vy → p x y S = some (d, S') → PostE F S' d Q → r vx vy H Q
def OkL (K : PySem.W.Frag) (p : PL) (r : List V → Hp → VK → Prop) : Prop := ∀ F S H xs vs d S' Q, F.K = K → Rep F S H → RelL F xs vs → p xs S = some (d, S') → PostE F S' d Q → r vs H Q
theorem dUn_some {p : P1} {f : DE} {ρ : Ev} {S : Sto} {z : DV × Sto} (h : dUn p f ρ S = some z) : ∃ x S1, f ρ S = some (x, S1) ∧ p x S1 = some z := by
  unfold dUn at h
  split at h
  · exact ⟨_, _, by assumption, h⟩
  · cases h
theorem dBin_some {p : P2} {f g : DE} {ρ : Ev} {S : Sto} {z : DV × Sto} (h : dBin p f g ρ S = some z) : ∃ x S1 y S2, f ρ S = some (x, S1) ∧ g ρ S1 = some (y, S2) ∧ p x y S2 = some z := by
  unfold dBin at h
  split at h
  · split at h
    · exact ⟨_, _, _, _, by assumption, by assumption, h⟩
    · cases h
  · cases h
theorem un_go {p : P1} {f : DE} {r : V → Hp → VK → Prop} (hp : Ok1 X.K p r) {F : Fm} {S S' : Sto} {H : Hp} {ρ : Ev} {σ : St} {d : DV} {Q : VK} (hk : F.K = X.K) (R : Rep F S H) (rr : RelE F ρ σ) (hf : dUn p f ρ S = some (d, S')) (hq : PostE F S' d Q) : tUn r (rdE X.K f) σ H Q := by
  obtain ⟨x, S1, h1, h2⟩ := dUn_some hf
  exact rdE.go hk R rr h1 fun F1 H1 v le hk1 R1 r1 rx => hp F1 S1 H1 x v d S' Q hk1 R1 rx h2 (hq.le le)
theorem bin_go {p : P2} {f g : DE} {r : R2} (hp : Ok2 X.K p r) {F : Fm} {S S' : Sto} {H : Hp} {ρ : Ev} {σ : St} {d : DV} {Q : VK} (hk : F.K = X.K) (R : Rep F S H) (rr : RelE F ρ σ) (hf : dBin p f g ρ S = some (d, S')) (hq : PostE F S' d Q) : tOp r (rdE X.K f) (rdE X.K g) σ H Q := by
  obtain ⟨x, S1, y, S2, h1, h2, h3⟩ := dBin_some hf
  exact rdE.go hk R rr h1 fun F1 H1 v le hk1 R1 r1 rx => rdE.go hk1 R1 r1 h2 fun F2 H2 u le2 hk2 R2 r2 ry => hp F2 S2 H2 x y v u d S' Q hk2 R2 (rx.le le2) ry h3 (hq.le (le.trans le2))
theorem ed_bin {op : Operator} {r : R2} {p : P2} {f g : DE} (ho : OpR X (binaryOp op) r) (hp : Ok2 X.K p r) (ha : ED X a f) (hb : ED X b g) : ED X (.BinOp a op b pos) (dBin p f g) :=
  .of (pe_op ho ha.pe hb.pe) fun F S H ρ σ d S' Q hk R rr hf hq => bin_go hp hk R rr hf hq
theorem ed_un {op : UnaryOp} {r : V → Hp → VK → Prop} {p : P1} {f : DE} (ho : UnR X (unaryOp op) r) (hp : Ok1 X.K p r) (ha : ED X a f) : ED X (.UnaryOp op a pos) (dUn p f) :=
  .of (pe_un ho ha.pe) fun F S H ρ σ d S' Q hk R rr hf hq => un_go hp hk R rr hf hq
theorem ed_cmp {op : CmpOp} {r : R2} {p : P2} {f g : DE} (ho : OpR X (compareOp op) r) (hp : Ok2 X.K p r) (ha : ED X a f) (hb : ED X b g) (hm : behindInMarks op b = false) : ED X (.Compare a [op] [b] pos) (dBin p f g) :=
  .of (pe_cmpR ho ha.pe hb.pe hm) fun F S H ρ σ d S' Q hk R rr hf hq => bin_go hp hk R rr hf hq
theorem td_cmp {op : CmpOp} {r : R2} {p : P2} {f g : DE} (ho : OpR X (compareOp op) r) (hp : Ok2 X.K p r) (ha : ED X a f) (hb : ED X b g) (hm : behindInMarks op b = false) : TD X (.Compare a [op] [b] pos) (dBin p f g) :=
  .of (pt_cmpR ho ha.pe hb.pe hm) fun F S H ρ σ d S' Q hk R rr hf hq => bin_go hp hk R rr hf fun F' H' v le R' rv => by
    have e : v = .bl d := rv
    exact ⟨d, e, hq F' H' le R'⟩
/-- a < b < c, b asked once -/
def dChain (p q : P2) (f g h : DE) : DE := fun ρ S => match f ρ S with
  | some (x, S1) => (match g ρ S1 with
    | some (y, S2) => (match p x y S2 with
      | some (.bl true, S3) => (match h ρ S3 with
        | some (z, S4) => q y z S4
        | none => none)
      | some (.bl false, S3) => some (.bl false, S3)
      | _ => none)
    | none => none)
  | none => none

/-! ### and, or, not, if else -/
def dAnd (f g : DE) : DE := fun ρ S => match f ρ S with
  | some (.bl true, S1) => g ρ S1
  | some (.bl false, S1) => some (.bl false, S1)
  | _ => none
def dOr (f g : DE) : DE := fun ρ S => match f ρ S with
  | some (.bl true, S1) => some (.bl true, S1)
  | some (.bl false, S1) => g ρ S1
  | _ => none
def dNot (f : DE) : DE := fun ρ S => match f ρ S with
  | some (.bl c, S1) => some (.bl (!c), S1)
  | _ => none
def dIf (c f g : DE) : DE := fun ρ S => match c ρ S with
  | some (.bl true, S1) => f ρ S1
  | some (.bl false, S1) => g ρ S1
  | _ => none
theorem dAnd_some {f g : DE} {ρ : Ev} {S : Sto} {z : DV × Sto} (h : dAnd f g ρ S = some z) : (∃ S1, f ρ S = some (.bl true, S1) ∧ g ρ S1 = some z) ∨ (∃ S1, f ρ S = some (.bl false, S1) ∧ z = (.bl false, S1)) := by
  unfold dAnd at h
  split at h
  · exact .inl ⟨_, by assumption, h⟩
  · exact .inr ⟨_, by assumption, (Option.some.inj h).symm⟩
  · cases h
theorem dOr_some {f g : DE} {ρ : Ev} {S : Sto} {z : DV × Sto} (h : dOr f g ρ S = some z) : (∃ S1, f ρ S = some (.bl true, S1) ∧ z = (.bl true, S1)) ∨ (∃ S1, f ρ S = some (.bl false, S1) ∧ g ρ S1 = some z) := by
  unfold dOr at h
  split at h
  · exact .inl ⟨_, by assumption, (Option.some.inj h).symm⟩
  · exact .inr ⟨_, by assumption, h⟩
  · cases h
theorem dNot_some {f : DE} {ρ : Ev} {S : Sto} {z : DV × Sto} (h : dNot f ρ S = some z) : ∃ c S1, f ρ S = some (.bl c, S1) ∧ z = (.bl (!c), S1) := by
  unfold dNot at h
  split at h
  · exact ⟨_, _, by assumption, (Option.some.inj h).symm⟩
  · cases h
variable {rest : List Expr} {f g : DE}
theorem td_val (h : ED X e f) (he : ∀ whole, isTrue e X.env whole = (do let v ← whole; standAt e.pos; holding [v] (truthy v)) := by intro _; rfl) : TD X e f :=
  .of (pt_val h.pe he) fun F S H ρ σ b S' Q hk R rr hf hq => rdE.go hk R rr hf fun F' H' v le _ R' _ rv => by
    have e : v = .bl b := rv
    exact ⟨b, e, hq F' H' le R'⟩
theorem TDW.td (h : TDW X e f) : TD X e f := ⟨h.pw.pt⟩
theorem tw_and1 (h : TD X a f) : TDW X (.BoolOp .And [a] pos) f := ⟨pw_and1 h.pt⟩
theorem tw_or1 (h : TD X a f) : TDW X (.BoolOp .Or [a] pos) f := ⟨pw_or1 h.pt⟩
theorem and_go {F : Fm} {S S' : Sto} {H : Hp} {ρ : Ev} {σ : St} {c : Bool} {Q : Bool → Hp → Prop} (hk : F.K = X.K) (R : Rep F S H) (rr : RelE F ρ σ) (hf : dAnd f g ρ S = some (.bl c, S')) (hq : PostT F S' c Q) : tAnd (rdT X.K f) (rdT X.K g) σ H Q := by
  rcases dAnd_some hf with ⟨S1, h1, h2⟩ | ⟨S1, h1, h2⟩
  · refine rdT.go hk R rr h1 fun F1 H1 le hk1 R1 r1 => ?_
    rw [if_pos rfl]
    exact rdT.go hk1 R1 r1 h2 fun F2 H2 le2 hk2 R2 _ => hq F2 H2 (le.trans le2) R2
  · cases h2
    refine rdT.go hk R rr h1 fun F1 H1 le hk1 R1 r1 => ?_
    rw [if_neg Bool.false_ne_true]
    exact hq F1 H1 le R1
theorem or_go {F : Fm} {S S' : Sto} {H : Hp} {ρ : Ev} {σ : St} {c : Bool} {Q : Bool → Hp → Prop} (hk : F.K = X.K) (R : Rep F S H) (rr : RelE F ρ σ) (hf : dOr f g ρ S = some (.bl c, S')) (hq : PostT F S' c Q) : tOr (rdT X.K f) (rdT X.K g) σ H Q := by
  rcases dOr_some hf with ⟨S1, h1, h2⟩ | ⟨S1, h1, h2⟩
  · cases h2
    refine rdT.go hk R rr h1 fun F1 H1 le hk1 R1 r1 => ?_
    rw [if_pos rfl]
    exact hq F1 H1 le R1
  · refine rdT.go hk R rr h1 fun F1 H1 le hk1 R1 r1 => ?_
    rw [if_neg Bool.false_ne_true]
    exact rdT.go hk1 R1 r1 h2 fun F2 H2 le2 hk2 R2 _ => hq F2 H2 (le.trans le2) R2
theorem tw_and (ha : TD X a f) (hb : TDW X (.BoolOp .And (b :: rest) pos) g) : TDW X (.BoolOp .And (a :: b :: rest) pos) (dAnd f g) :=
  .of (pw_and ha.pt hb.pw) fun F S H ρ σ c S' Q hk R rr hf hq => and_go hk R rr hf hq
theorem tw_or (ha : TD X a f) (hb : TDW X (.BoolOp .Or (b :: rest) pos) g) : TDW X (.BoolOp .Or (a :: b :: rest) pos) (dOr f g) :=
  .of (pw_or ha.pt hb.pw) fun F S H ρ σ c S' Q hk R rr hf hq => or_go hk R rr hf hq
theorem td_not (ha : TD X a f) : TD X (.UnaryOp .Not a pos) (dNot f) :=
  .of (pt_not ha.pt) fun F S H ρ σ c S' Q hk R rr hf hq => by
    obtain ⟨c', S1, h1, h2⟩ := dNot_some hf
    cases h2
    exact rdT.go hk R rr h1 fun F1 H1 le hk1 R1 r1 => hq F1 H1 le R1
theorem ed_one {op : BoolOp} (h : ED X a f) : ED X (.BoolOp op [a] pos) f := ⟨pe_one h.pe⟩
theorem ed_and (ha : ED X a f) (hb : ED X (.BoolOp .And (b :: rest) pos) g) : ED X (.BoolOp .And (a :: b :: rest) pos) (dAnd f g) :=
  .of (pe_and ha.pe hb.pe) fun F S H ρ σ d S' Q hk R rr hf hq => by
    rcases dAnd_some hf with ⟨S1, h1, h2⟩ | ⟨S1, h1, h2⟩
    · refine rdE.go hk R rr h1 fun F1 H1 v le hk1 R1 r1 rv => ⟨true, rv, ?_⟩
      rw [if_pos rfl]
      exact rdE.go hk1 R1 r1 h2 fun F2 H2 v le2 hk2 R2 _ rv => hq F2 H2 v (le.trans le2) R2 rv
    · cases h2
      refine rdE.go hk R rr h1 fun F1 H1 v le hk1 R1 r1 rv => ⟨false, rv, ?_⟩
      rw [if_neg Bool.false_ne_true]
      exact hq F1 H1 _ le R1 rfl
theorem ed_or (ha : ED X a f) (hb : ED X (.BoolOp .Or (b :: rest) pos) g) : ED X (.BoolOp .Or (a :: b :: rest) pos) (dOr f g) :=
  .of (pe_or ha.pe hb.pe) fun F S H ρ σ d S' Q hk R rr hf hq => by
    rcases dOr_some hf with ⟨S1, h1, h2⟩ | ⟨S1, h1, h2⟩
    · cases h2
      refine rdE.go hk R rr h1 fun F1 H1 v le hk1 R1 r1 rv => ⟨true, rv, ?_⟩
      rw [if_pos rfl]
      exact hq F1 H1 _ le R1 rfl
    · refine rdE.go hk R rr h1 fun F1 H1 v le hk1 R1 r1 rv => ⟨false, rv, ?_⟩
      rw [if_neg Bool.false_ne_true]
      exact rdE.go hk1 R1 r1 h2 fun F2 H2 v le2 hk2 R2 _ rv => hq F2 H2 v (le.trans le2) R2 rv
theorem ed_not (ha : ED X a f) : ED X (.UnaryOp .Not a pos) (dNot f) :=
  .of (pe_not ha.pe) fun F S H ρ σ d S' Q hk R rr hf hq => by
    obtain ⟨c', S1, h1, h2⟩ := dNot_some hf
    cases h2
    exact rdE.go hk R rr h1 fun F1 H1 v le hk1 R1 r1 rv => ⟨c', rv, hq F1 H1 _ le R1 rfl⟩
/-! ### argument lists -/
def aNil : DA := fun _ S => some ([], S)
def aCons (f : DE) (g : DA) : DA := fun ρ S => match f ρ S with
  | some (x, S1) => (match g ρ S1 with
    | some (xs, S2) => some (x :: xs, S2)
    | none => none)
  | none => none
theorem aCons_some {f : DE} {g : DA} {ρ : Ev} {S : Sto} {z : List DV × Sto} (h : aCons f g ρ S = some z) : ∃ x S1 xs S2, f ρ S = some (x, S1) ∧ g ρ S1 = some (xs, S2) ∧ z = (x :: xs, S2) := by
  unfold aCons at h
  split at h
  · split at h
    · exact ⟨_, _, _, _, by assumption, by assumption, (Option.some.inj h).symm⟩
    · cases h
  · cases h
theorem ad_nil : AD X [] aNil := .of pa_nil fun F S H ρ σ d S' Q hk R rr hf hq => by
  cases (show some (([] : List DV), S) = some (d, S') from hf)
  exact hq F H [] (.refl F) R rfl
theorem ad_cons {es : List Expr} {g : DA} (ha : ED X e f) (hr : AD X es g) (hs : starEach (e :: es) X.env = (false, eval e X.env) :: starEach es X.env := by rfl) : AD X (e :: es) (aCons f g) :=
  .of (pa_cons ha.pe hr.pa hs) fun F S H ρ σ d S' Q hk R rr hf hq => by
    obtain ⟨x, S1, xs, S2, h1, h2, h3⟩ := aCons_some hf
    cases h3
    exact rdE.go hk R rr h1 fun F1 H1 v le hk1 R1 r1 rx => rdA.go hk1 R1 r1 h2 fun F2 H2 vs le2 hk2 R2 r2 ry => hq F2 H2 (v :: vs) (le.trans le2) R2 (.cons (rx.le le2) ry)
def dPrim (p : PL) (f : DA) : DE := fun ρ S => match f ρ S with
  | some (xs, S1) => p xs S1
  | none => none
theorem dPrim_some {p : PL} {f : DA} {ρ : Ev} {S : Sto} {z : DV × Sto} (h : dPrim p f ρ S = some z) : ∃ x S1, f ρ S = some (x, S1) ∧ p x S1 = some z := by
  unfold dPrim at h
  split at h
  · exact ⟨_, _, by assumption, h⟩
  · cases h
theorem prim_go {p : PL} {f : DA} {r : List V → Hp → VK → Prop} (hp : OkL X.K p r) {F : Fm} {S S' : Sto} {H : Hp} {ρ : Ev} {σ : St} {d : DV} {Q : VK} (hk : F.K = X.K) (R : Rep F S H) (rr : RelE F ρ σ) (hf : dPrim p f ρ S = some (d, S')) (hq : PostE F S' d Q) : rdA X.K f σ H fun vs H1 => r vs H1 Q := by
  obtain ⟨x, S1, h1, h2⟩ := dPrim_some hf
  exact rdA.go hk R rr h1 fun F1 H1 v le hk1 R1 r1 rx => hp F1 S1 H1 x v d S' Q hk1 R1 rx h2 (hq.le le)
/-- anything that asks an argument list, then r -/
theorem ed_prim {es : List Expr} {r : List V → Hp → VK → Prop} {p : PL} {fa : DA} (hpe : ∀ {t : TA}, PA X es t → PE X e (tCB r t)) (hp : OkL X.K p r) (ha : AD X es fa) : ED X e (dPrim p fa) :=
  .of (hpe ha.pa) fun F S H ρ σ d S' Q hk R rr hf hq => prim_go hp hk R rr hf hq

/-! ### tuples and lists written -/
def pTup : PL := fun xs S => if xs.length ≤ sizeLine then some (.tup xs, S) else none
def pLst : PL := fun xs S => if xs.length ≤ sizeLine then some (.lst .own xs, S) else none
def pLstM : PL := fun xs S => if xs.length ≤ sizeLine then some (.loc S.length, S ++ [.lst xs]) else none
theorem of_ite {α : Type} {c : Prop} [Decidable c] {x : Option α} {z : α} (h : (if c then x else none) = some z) : c ∧ x = some z := by
  split at h
  · exact ⟨by assumption, h⟩
  · cases h
theorem new_tup {F : Fm} {S : Sto} {H : Hp} {Q : VK} {ds : List DV} {vs : List V} (R : Rep F S H) (r : RelL F ds vs) (hq : PostE F S (.tup ds) Q) : ∀ p, H p = none → Q (.ref p) (upd H p (.tup vs)) := fun p hp => by
  obtain ⟨R', le⟩ := R.add (o := .tup vs) hp
  exact hq _ _ _ le R' ⟨p, vs, rfl, upd_same, r.le le⟩
theorem new_lst {F : Fm} {S : Sto} {H : Hp} {Q : VK} {ds : List DV} {vs : List V} (R : Rep F S H) (r : RelL F ds vs) (hq : PostE F S (.lst .own ds) Q) : ∀ p, H p = none → Q (.ref p) (upd H p (.lst vs)) := fun p hp => by
  obtain ⟨R', le⟩ := R.add (o := .lst vs) hp
  exact hq _ _ _ le R' ⟨p, vs, rfl, upd_same, r.le le⟩
theorem get_len {α : Type} (l : List α) (x : α) : (l ++ [x])[l.length]? = some x := by
  rw [List.getElem?_append_right (Nat.le_refl _), Nat.sub_self]
  rfl
theorem new_lstM {F : Fm} {S : Sto} {H : Hp} {Q : VK} {ds : List DV} {vs : List V} (R : Rep F S H) (r : RelL F ds vs) (hq : PostE F (S ++ [.lst ds]) (.loc S.length) Q) : ∀ p, H p = none → Q (.ref p) (upd H p (.lst vs)) := fun p hp => by
  have R' := R.alloc (o := .lst vs) (c := .lst ds) hp (fun _ q => nomatch q) ⟨vs, upd_same, r.le (F.cell_le p)⟩
  exact hq _ _ _ (F.cell_le p) R' ⟨p, by rw [← R.len]; exact get_len _ _, rfl⟩
theorem ed_tup {es : List Expr} {fa : DA} {x1} (ha : AD X es fa) : ED X (.Tuple es x1 pos) (dPrim pTup fa) :=
  .of (pe_tup ha.pa) fun F S H ρ σ d S' Q hk R rr hf hq => prim_go (r := fun xs H1 Q => xs.length ≤ sizeLine ∧ ∀ p, H1 p = none → Q (.ref p) (upd H1 p (.tup xs))) (fun F S H xs vs d S' Q hk R rl hp hq => by
    obtain ⟨h1, h2⟩ := of_ite hp
    cases h2
    exact ⟨by rw [← rl.length]; exact h1, new_tup R rl hq⟩) hk R rr hf hq
theorem ed_lst {es : List Expr} {fa : DA} (ha : AD X es fa) : ED X (.List es pos) (dPrim pLst fa) :=
  .of (pe_lst ha.pa) fun F S H ρ σ d S' Q hk R rr hf hq => prim_go (r := fun xs H1 Q => xs.length ≤ sizeLine ∧ ∀ p, H1 p = none → Q (.ref p) (upd H1 p (.lst xs))) (fun F S H xs vs d S' Q hk R rl hp hq => by
    obtain ⟨h1, h2⟩ := of_ite hp
    cases h2
    exact ⟨by rw [← rl.length]; exact h1, new_lst R rl hq⟩) hk R rr hf hq
theorem ed_lstM {es : List Expr} {fa : DA} (ha : AD X es fa) : ED X (.List es pos) (dPrim pLstM fa) :=
  .of (pe_lst ha.pa) fun F S H ρ σ d S' Q hk R rr hf hq => prim_go (r := fun xs H1 Q => xs.length ≤ sizeLine ∧ ∀ p, H1 p = none → Q (.ref p) (upd H1 p (.lst xs))) (fun F S H xs vs d S' Q hk R rl hp hq => by
    obtain ⟨h1, h2⟩ := of_ite hp
    cases h2
    exact ⟨by rw [← rl.length]; exact h1, new_lstM R rl hq⟩) hk R rr hf hq

/-! ### statements -/
variable {st : Stmt} {sts : List Stmt}
def dNext : DS := fun ρ S => some (.nx ρ S)
def dSeq (f g : DS) : DS := fun ρ S => match f ρ S with
  | some (.nx ρ' S') => g ρ' S'
  | o => o
theorem sds_nil : SDs X [] dNext := .of pss_nil fun F S H ρ σ o D hk R rr hf hq => by
  cases (show some (Out.nx ρ S) = some o from hf)
  exact hq F H (.refl F) R σ rr
theorem seq_go {f g : DS} {F : Fm} {S : Sto} {H : Hp} {ρ : Ev} {σ : St} {o : Out} {D : Ends} {K : PySem.W.Frag} (hk : F.K = K) (R : Rep F S H) (rr : RelE F ρ σ) (hf : dSeq f g ρ S = some o) (hq : PostS F o D) : tSeq (rdS K f) (rdS K g) D σ H := by
  unfold dSeq at hf
  split at hf
  · rename_i ρ' S' h1
    exact ⟨F, S, ρ, _, hk, R, rr, h1, fun F' H' le R' σ' r' => ⟨F', S', ρ', o, le.k.trans hk, R', r', hf, hq.le le⟩⟩
  · rename_i h1
    refine ⟨F, S, ρ, o, hk, R, rr, hf, fun F' H' le R' => ?_⟩
    have := hq F' H' le R'
    cases o with
    | nx ρ' S' => exact absurd hf (h1 ρ' S')
    | rt d S' => exact this
    | bk ρ' S' => exact this
    | ct ρ' S' => exact this
theorem sds_cons {f g : DS} (h : SD X st f) (hr : SDs X sts g) : SDs X (st :: sts) (dSeq f g) :=
  .of (pss_cons h.ps hr.ps) fun F S H ρ σ o D hk R rr hf hq => seq_go hk R rr hf hq
theorem sds_one {f : DS} (h : SD X st f) : SDs X [st] f := ⟨pss_one h.ps⟩
def dBreak : DS := fun ρ S => some (.bk ρ S)
def dCont : DS := fun ρ S => some (.ct ρ S)
def dExpr (f : DE) : DS := fun ρ S => match f ρ S with
  | some (_, S') => some (.nx ρ S')
  | none => none
theorem sd_expr (h : ED X e f) (hs : swapsWith e none pos.line X.env = pure false := by rfl) : SD X (.Expr e pos) (dExpr f) :=
  .of (ps_expr h.pe hs) fun F S H ρ σ o D hk R rr hf hq => by
    unfold dExpr at hf
    split at hf
    · rename_i d S' h1
      cases hf
      exact rdE.go hk R rr h1 fun F1 H1 v le hk1 R1 r1 rv => hq F1 H1 le R1 σ r1
    · cases hf
def dRet (f : DE) : DS := fun ρ S => match f ρ S with
  | some (d, S') => some (.rt d S')
  | none => none
theorem sd_ret (h : ED X e f) : SD X (.Return (some e) pos) (dRet f) :=
  .of (ps_ret h.pe) fun F S H ρ σ o D hk R rr hf hq => by
    unfold dRet at hf
    split at hf
    · rename_i d S' h1
      cases hf
      exact rdE.go hk R rr h1 fun F1 H1 v le hk1 R1 r1 rv => hq F1 H1 le R1 v rv
    · cases hf
def dRetN : DS := fun _ S => some (.rt .non S)
def dIfS (c : DE) (f g : DS) : DS := fun ρ S => match c ρ S with
  | some (.bl true, S1) => f ρ S1
  | some (.bl false, S1) => g ρ S1
  | _ => none
theorem dIfS_some {c : DE} {f g : DS} {ρ : Ev} {S : Sto} {z : Out} (h : dIfS c f g ρ S = some z) : (∃ S1, c ρ S = some (.bl true, S1) ∧ f ρ S1 = some z) ∨ (∃ S1, c ρ S = some (.bl false, S1) ∧ g ρ S1 = some z) := by
  unfold dIfS at h
  split at h
  · exact .inl ⟨_, by assumption, h⟩
  · exact .inr ⟨_, by assumption, h⟩
  · cases h
theorem rdS.go {f : DS} {F : Fm} {S : Sto} {H : Hp} {ρ : Ev} {σ : St} {o : Out} {D : Ends} {K : PySem.W.Frag} (hk : F.K = K) (R : Rep F S H) (rr : RelE F ρ σ) (hf : f ρ S = some o) (hq : PostS F o D) : rdS K f D σ H := ⟨F, S, ρ, o, hk, R, rr, hf, hq⟩
theorem sd_if {c : Expr} {ss ts : List Stmt} {hc : DE} {f g : DS} (h1 : TD X c hc) (h2 : SDs X ss f) (h3 : SDs X ts g) : SD X (.If c ss ts pos) (dIfS hc f g) :=
  .of (ps_if h1.pt h2.ps h3.ps) fun F S H ρ σ o D hk R rr hf hq => by
    rcases dIfS_some hf with ⟨S1, h1, h2⟩ | ⟨S1, h1, h2⟩
    · refine rdT.go hk R rr h1 fun F1 H1 le hk1 R1 r1 => ?_
      rw [if_pos rfl]
      exact rdS.go hk1 R1 r1 h2 (hq.le le)
    · refine rdT.go hk R rr h1 fun F1 H1 le hk1 R1 r1 => ?_
      rw [if_neg Bool.false_ne_true]
      exact rdS.go hk1 R1 r1 h2 (hq.le le)

/-! ### targets -/
def gSet (i : Nat) : DG := fun d ρ S => some (ρ.set i (some d), S)
theorem gd_name {i : Nat} (h : PG X e (gName i)) : GD X e (gSet i) := .of h fun F S H ρ σ d v ρ' S' Q hk R rr rv hf hq => by
  cases (show some (ρ.set i (some d), S) = some (ρ', S') from hf)
  exact hq F H _ (.refl F) R (rr.set i rv)
abbrev DGs := List DV → Ev → Sto → Option (Ev × Sto)
def rdGs (K : PySem.W.Frag) (g : DGs) : TGs := fun vs σ H Q => ∃ F S ρ ds ρ' S', F.K = K ∧ Rep F S H ∧ RelE F ρ σ ∧ RelL F ds vs ∧ g ds ρ S = some (ρ', S') ∧ ∀ F' H' σ', Le F F' → Rep F' S' H' → RelE F' ρ' σ' → Q σ' H'
structure GDs (X : Cx) (es : List Expr) (g : DGs) : Prop where
  pg : PGs X es (rdGs X.K g)
theorem GDs.of {es : List Expr} {t : TGs} {g : DGs} (h : PGs X es t) (m : ∀ F S H ρ σ d v ρ' S' Q, F.K = X.K → Rep F S H → RelE F ρ σ → RelL F d v → g d ρ S = some (ρ', S') → (∀ F' H' σ', Le F F' → Rep F' S' H' → RelE F' ρ' σ' → Q σ' H') → t v σ H Q) : GDs X es g :=
  ⟨⟨fun pins s σ H v u Q I rv ⟨F, S, ρ, d, ρ', S', hk, R, r, rd, hf, hq⟩ => h.run pins s σ H v u Q I rv (m F S H ρ σ d v ρ' S' Q hk R r rd hf hq)⟩⟩
def gsNil : DGs := fun ds ρ S => match ds with
  | [] => some (ρ, S)
  | _ => none
def gsCons (g : DG) (h : DGs) : DGs := fun ds ρ S => match ds with
  | d :: r => (match g d ρ S with
    | some (ρ', S') => h r ρ' S'
    | none => none)
  | [] => none
theorem gds_nil : GDs X [] gsNil := .of pgs_nil fun F S H ρ σ d v ρ' S' Q hk R rr rv hf hq => by
  unfold gsNil at hf
  split at hf
  · cases hf
    exact ⟨rv.nil, hq F H σ (.refl F) R rr⟩
  · cases hf
theorem gds_cons {es : List Expr} {g : DG} {h : DGs} {t : TG} {u : TGs} (h1 : GD X e g) (h2 : GDs X es h) (hp : PGs X (e :: es) (gCons (rdG X.K g) (rdGs X.K h))) : GDs X (e :: es) (gsCons g h) :=
  .of hp fun F S H ρ σ d v ρ' S' Q hk R rr rv hf hq => by
    unfold gsCons at hf
    split at hf
    · rename_i d0 r
      obtain ⟨x, vr, rfl, rx, rl⟩ := rv
      split at hf
      · rename_i ρ1 S1 h1
        exact ⟨x, vr, rfl, F, S, ρ, d0, ρ1, S1, hk, R, rr, rx, h1, fun F1 H1 σ1 le R1 r1 => ⟨F1, S1, ρ1, r, ρ', S', le.k.trans hk, R1, r1, rl.le le, hf, fun F2 H2 σ2 le2 => hq F2 H2 σ2 (le.trans le2)⟩⟩
      · cases hf
    · cases hf
def gTupD (n : Nat) (h : DGs) : DG := fun d ρ S => match d with
  | .tup ds => if ds.length = n then h ds ρ S else none
  | _ => none
theorem gd_tup {n : Nat} {es : List Expr} {h : DGs} (h2 : GDs X es h) (hp : PG X e (gTup X.K n (rdGs X.K h))) : GD X e (gTupD n h) :=
  .of hp fun F S H ρ σ d v ρ' S' Q hk R rr rv hf hq => by
    unfold gTupD at hf
    split at hf
    · rename_i ds
      obtain ⟨hn, hf⟩ := of_ite hf
      obtain ⟨a, xs, rfl, hs, rl⟩ := rv
      exact ⟨a, xs, rfl, SqT.of (R.g _ _ hs), by rw [← rl.length]; exact hn, F, S, ρ, ds, ρ', S', hk, R, rr, rl, hf, hq⟩
    · cases hf
def dAsg (f : DE) (g : DG) : DS := fun ρ S => match f ρ S with
  | some (d, S1) => (match g d ρ S1 with
    | some (ρ', S2) => some (.nx ρ' S2)
    | none => none)
  | none => none
theorem asg_go {g : DG} {F : Fm} {S : Sto} {H : Hp} {ρ : Ev} {σ : St} {o : Out} {D : Ends} {K : PySem.W.Frag} (hk : F.K = K) (R : Rep F S H) (rr : RelE F ρ σ) (hf : dAsg f g ρ S = some o) (hq : PostS F o D) : tAsg (rdE K f) (rdG K g) D σ H := by
  unfold dAsg at hf
  split at hf
  · rename_i d S1 h1
    split at hf
    · rename_i ρ' S2 h2
      cases hf
      exact rdE.go hk R rr h1 fun F1 H1 v le hk1 R1 r1 rv => ⟨F1, S1, ρ, d, ρ', S2, hk1, R1, r1, rv, h2, fun F2 H2 σ2 le2 R2 r2 => hq F2 H2 (le.trans le2) R2 σ2 r2⟩
    · cases hf
  · cases hf
theorem sd_asg {g : DG} (h : PS X st (tAsg (rdE X.K f) (rdG X.K g))) : SD X st (dAsg f g) := .of h fun F S H ρ σ o D hk R rr hf hq => asg_go hk R rr hf hq
def dSet (i : Nat) (f : DE) : DS := fun ρ S => match f ρ S with
  | some (d, S1) => some (.nx (ρ.set i (some d)) S1)
  | none => none
theorem sd_set {i : Nat} (h : PS X st (tAsg (rdE X.K f) (gName i))) : SD X st (dSet i f) := .of h fun F S H ρ σ o D hk R rr hf hq => by
  unfold dSet at hf
  split at hf
  · rename_i d S1 h1
    cases hf
    exact rdE.go hk R rr h1 fun F1 H1 v le hk1 R1 r1 rv => hq F1 H1 le R1 _ (r1.set i rv)
  · cases hf

/-! ### loops -/
abbrev DI := Ev → Sto → Option (List DV × Sto)
def Walks (J : It) (F0 : Fm) (ds : List DV) : Prop := ∀ (i : Nat) F S H, Wk F0 F → PF F0 F → Rep F S H → (i = ds.length → J.stop i H) ∧ ∀ d, ds[i]? = some d → J.go i H ∧ ∀ x H', J.yld i H x H' → ∃ F', Le F F' ∧ Rep F' S H' ∧ Rel F' d x
def rdI (K : PySem.W.Frag) (f : DI) : TI := fun σ H R => ∃ F S ρ ds S', F.K = K ∧ Rep F S H ∧ RelE F ρ σ ∧ f ρ S = some (ds, S') ∧ ∀ J F' H', Le F F' → Rep F' S' H' → Walks J F' ds → R J H'
structure ID (X : Cx) (tg iter : Expr) (f : DI) : Prop where
  pi : PI X tg iter (rdI X.K f)
theorem ID.of {tg : Expr} {t : TI} {f : DI} (h : PI X tg e t) (m : ∀ F S H ρ σ ds S' Q, F.K = X.K → Rep F S H → RelE F ρ σ → f ρ S = some (ds, S') → (∀ J F' H', Le F F' → Rep F' S' H' → Walks J F' ds → Q J H') → t σ H Q) : ID X tg e f :=
  ⟨⟨fun pins s σ H Q I ⟨F, S, ρ, d, S', hk, R, r, hf, hq⟩ => h.run pins s σ H Q I (m F S H ρ σ d S' Q hk R r hf hq)⟩⟩
def forL (g : DG) (body : DS) : List DV → DS
  | [] => fun ρ S => some (.nx ρ S)
  | d :: ds => fun ρ S => match g d ρ S with
    | some (ρ1, S1) => (match body ρ1 S1 with
      | some (.nx ρ2 S2) => forL g body ds ρ2 S2
      | some (.ct ρ2 S2) => forL g body ds ρ2 S2
      | some (.bk ρ2 S2) => some (.nx ρ2 S2)
      | some (.rt v S2) => some (.rt v S2)
      | none => none)
    | none => none
def dFor (it : DI) (g : DG) (body : DS) : DS := fun ρ S => match it ρ S with
  | some (ds, S1) => forL g body ds ρ S1
  | none => none
theorem for_go {it : DI} {g : DG} {body : DS} {F : Fm} {S : Sto} {H : Hp} {ρ : Ev} {σ : St} {o : Out} {D : Ends} {K : PySem.W.Frag} (hk : F.K = K) (R : Rep F S H) (rr : RelE F ρ σ) (hf : dFor it g body ρ S = some o) (hq : PostS F o D) : tFor (rdI K it) (rdG K g) (rdS K body) D σ H := by
  unfold dFor at hf
  split at hf
  · rename_i ds S1 h1
    refine ⟨F, S, ρ, ds, S1, hk, R, rr, h1, fun J F1 H1 le1 R1 wk => ?_⟩
    refine ⟨fun i m σ H => i ≤ ds.length ∧ m = ds.length - i ∧ ∃ F' S' ρ', Le F1 F' ∧ Rep F' S' H ∧ RelE F' ρ' σ ∧ forL g body (ds.drop i) ρ' S' = some o, ⟨ds.length, Nat.zero_le _, rfl, F1, S1, ρ, .refl F1, R1, rr.le le1, by rw [List.drop_zero]; exact hf⟩, ?_⟩
    rintro i m σ H ⟨hi, rfl, F', S', ρ', le', R', r', hf'⟩
    obtain ⟨w1, w2⟩ := wk i F' S' H le'.wk le'.pf R'
    by_cases hlt : i < ds.length
    · refine .inr ?_
      have hd : ds[i]? = some ds[i] := List.getElem?_eq_getElem hlt
      obtain ⟨g1, g2⟩ := w2 _ hd
      rw [List.drop_eq_getElem_cons hlt] at hf'
      unfold forL at hf'
      refine ⟨g1, fun σ' H' => ∃ m', m' < ds.length - i ∧ (i + 1 ≤ ds.length ∧ m' = ds.length - (i + 1) ∧ ∃ F' S' ρ', Le F1 F' ∧ Rep F' S' H' ∧ RelE F' ρ' σ' ∧ forL g body (ds.drop (i + 1)) ρ' S' = some o), fun _ _ z => z, fun x H2 y => ?_⟩
      obtain ⟨F2, le2, R2, rx⟩ := g2 x H2 y
      split at hf'
      · rename_i ρ1 S3 hg
        refine ⟨F2, S', ρ', _, ρ1, S3, le2.k.trans (le'.k.trans (le1.k.trans hk)), R2, r'.le le2, rx, hg, fun F3 H3 σ3 le3 R3 r3 => ?_⟩
        have le03 : Le F1 F3 := (le'.trans le2).trans le3
        split at hf'
        · rename_i ρ2 S2 hb
          exact rdS.go (le3.k.trans (le2.k.trans (le'.k.trans (le1.k.trans hk)))) R3 r3 hb fun F4 H4 le4 R4 σ4 r4 => ⟨_, by omega, hlt, rfl, F4, S2, ρ2, le03.trans le4, R4, r4, hf'⟩
        · rename_i ρ2 S2 hb
          exact rdS.go (le3.k.trans (le2.k.trans (le'.k.trans (le1.k.trans hk)))) R3 r3 hb fun F4 H4 le4 R4 σ4 r4 => ⟨_, by omega, hlt, rfl, F4, S2, ρ2, le03.trans le4, R4, r4, hf'⟩
        · rename_i ρ2 S2 hb
          cases hf'
          exact rdS.go (le3.k.trans (le2.k.trans (le'.k.trans (le1.k.trans hk)))) R3 r3 hb fun F4 H4 le4 R4 σ4 r4 => hq F4 H4 (le1.trans (le03.trans le4)) R4 σ4 r4
        · rename_i v S2 hb
          cases hf'
          exact rdS.go (le3.k.trans (le2.k.trans (le'.k.trans (le1.k.trans hk)))) R3 r3 hb fun F4 H4 le4 R4 v rv => hq F4 H4 (le1.trans (le03.trans le4)) R4 v rv
        · cases hf'
      · cases hf'
    · have e : i = ds.length := by omega
      subst e
      rw [List.drop_length] at hf'
      cases (show some (Out.nx ρ' S') = some o from hf')
      exact .inl ⟨w1 rfl, hq F' H (le1.trans le') R' σ r'⟩
  · cases hf
theorem sd_for {it : DI} {g : DG} {body : DS} (h : PS X st (tFor (rdI X.K it) (rdG X.K g) (rdS X.K body))) : SD X st (dFor it g body) := .of h fun F S H ρ σ o D hk R rr hf hq => for_go hk R rr hf hq
end
end Dn

namespace Dn
open PySem PySem.Spec PyProof.Rows L2

/-! ### copies: cells to values -/
mutual
def mapD (bor : Bool) (h : Nat → Option DV) : DV → Option DV
  | .loc n => h n
  | .tup ds => match mapDL bor h ds with
    | some es => some (.tup es)
    | none => none
  | .tupx ds => match mapDL bor h ds with
    | some es => some (.tupx es)
    | none => none
  | .lst k ds => if k = .bor ∧ bor = false then none else match mapDL bor h ds with
    | some es => some (.lst k es)
    | none => none
  | .dik k ks ds => if k ≠ .own ∧ bor = false then none else match mapDL bor h ds with
    | some es => some (.dik k ks es)
    | none => none
  | .dit k ks ds => if k ≠ .own ∧ bor = false then none else match mapDL bor h ds with
    | some es => some (.dit k ks es)
    | none => none
  | .non => some .non
  | .bl b => some (.bl b)
  | .int i => some (.int i)
  | .str s => some (.str s)
def mapDL (bor : Bool) (h : Nat → Option DV) : List DV → Option (List DV)
  | [] => some []
  | d :: ds => match mapD bor h d with
    | some e => (match mapDL bor h ds with
      | some es => some (e :: es)
      | none => none)
    | none => none
end
def bk (bor : Bool) : LK := if bor then .bor else .own
def cpN (bor : Bool) : Nat → Sto → Nat → Option DV
  | 0, _, _ => none
  | k + 1, S, n => match S[n]? with
    | some (.lst ds) => (match mapDL bor (cpN bor k S) ds with
      | some es => some (.lst (bk bor) es)
      | none => none)
    | some (.dik ks ds) => (match mapDL bor (cpN bor k S) ds with
      | some es => some (.dik (bk bor) ks es)
      | none => none)
    | some (.dit ks ds) => (match mapDL bor (cpN bor k S) ds with
      | some es => some (.dit (bk bor) ks es)
      | none => none)
    | some (.frz d) => mapD bor (cpN bor k S) d
    | _ => none
/-- as a value: borrowed (bor), or frozen -/
def cpD (bor : Bool) (S : Sto) (d : DV) : Option DV := mapD bor (cpN bor (S.length + 1) S) d
def cpL (bor : Bool) (S : Sto) (ds : List DV) : Option (List DV) := mapDL bor (cpN bor (S.length + 1) S) ds

structure CpTo (bor : Bool) (F F2 : Fm) : Prop where
  k : F2.K = F.K
  g : Same F.G F2.G
  b : bor = true → Same F.B F2.B
mutual
theorem mapD_rel {bor : Bool} {h : Nat → Option DV} {F F2 : Fm} (c : CpTo bor F F2) (hh : ∀ n d a, h n = some d → F.lm[n]? = some a → Rel F2 d (.ref a)) : ∀ (d d' : DV) (v : V), mapD bor h d = some d' → Rel F d v → Rel F2 d' v
  | .loc n, d', v, e, r => by
    obtain ⟨a, h1, rfl⟩ := r
    exact hh n d' a e h1
  | .tup ds, d', v, e, r => by
    obtain ⟨a, xs, rfl, hs, hl⟩ := r
    unfold mapD at e
    split at e
    · rename_i es he
      cases e
      exact ⟨a, xs, rfl, c.g _ _ hs, mapDL_rel c hh ds es xs he hl⟩
    · cases e
  | .tupx ds, d', v, e, r => by
    obtain ⟨a, xs, rfl, hs, hl⟩ := r
    unfold mapD at e
    split at e
    · rename_i es he
      cases e
      exact ⟨a, xs, rfl, by rw [c.k]; exact sqN_same c.g hs, mapDL_rel c hh ds es xs he hl⟩
    · cases e
  | .lst k ds, d', v, e, r => by
    unfold mapD at e
    split at e
    · cases e
    · rename_i hn
      split at e
      · rename_i es he
        cases e
        cases k with
        | own =>
          obtain ⟨a, xs, rfl, hs, hl⟩ := r
          exact ⟨a, xs, rfl, c.g _ _ hs, mapDL_rel c hh ds es xs he hl⟩
        | bor =>
          obtain ⟨a, xs, rfl, hs, hl⟩ := r
          have hb : bor = true := by
            cases bor with
            | true => rfl
            | false => exact absurd ⟨rfl, rfl⟩ hn
          exact ⟨a, xs, rfl, hs.elim (fun h => .inl (c.b hb _ _ h)) fun h => .inr (c.g _ _ h), mapDL_rel c hh ds es xs he hl⟩
        | ext =>
          obtain ⟨a, xs, rfl, hs, hl⟩ := r
          exact ⟨a, xs, rfl, by rw [c.k]; exact sqL_same c.g hs, mapDL_rel c hh ds es xs he hl⟩
      · cases e
  | .dik k ks ds, d', v, e, r => by
    unfold mapD at e
    split at e
    · cases e
    · rename_i hn
      split at e
      · rename_i es he
        cases e
        obtain ⟨a, xs, rfl, hz, hs, hl⟩ := r
        have hl2 := mapDL_rel c hh ds es xs he hl
        refine ⟨a, xs, rfl, hz.trans (hl.length.trans hl2.length.symm), hs.elim (fun h => .inl (c.g _ _ h)) fun h => .inr ⟨h.1, c.b ?_ _ _ h.2⟩, hl2⟩
        cases bor with
        | true => rfl
        | false => exact absurd ⟨h.1, rfl⟩ hn
      · cases e
  | .dit k ks ds, d', v, e, r => by
    unfold mapD at e
    split at e
    · cases e
    · rename_i hn
      split at e
      · rename_i es he
        cases e
        obtain ⟨a, xs, rfl, hz, hs, hl⟩ := r
        have hl2 := mapDL_rel c hh ds es xs he hl
        refine ⟨a, xs, rfl, hz.trans (hl.length.trans hl2.length.symm), hs.elim (fun h => .inl (c.g _ _ h)) fun h => .inr ⟨h.1, c.b ?_ _ _ h.2⟩, hl2⟩
        cases bor with
        | true => rfl
        | false => exact absurd ⟨h.1, rfl⟩ hn
      · cases e
  | .non, d', v, e, r => by
    cases (show some DV.non = some d' from e)
    exact r
  | .bl b, d', v, e, r => by
    cases (show some (DV.bl b) = some d' from e)
    exact r
  | .int b, d', v, e, r => by
    cases (show some (DV.int b) = some d' from e)
    exact r
  | .str b, d', v, e, r => by
    cases (show some (DV.str b) = some d' from e)
    exact r
theorem mapDL_rel {bor : Bool} {h : Nat → Option DV} {F F2 : Fm} (c : CpTo bor F F2) (hh : ∀ n d a, h n = some d → F.lm[n]? = some a → Rel F2 d (.ref a)) : ∀ (ds es : List DV) (vs : List V), mapDL bor h ds = some es → RelL F ds vs → RelL F2 es vs
  | [], es, vs, e, r => by
    cases (show some ([] : List DV) = some es from e)
    exact r
  | d :: ds, es, vs, e, r => by
    obtain ⟨x, xr, rfl, h1, h2⟩ := r
    unfold mapDL at e
    split at e
    · rename_i e1 he1
      split at e
      · rename_i es1 hes1
        cases e
        exact ⟨x, xr, rfl, mapD_rel c hh d e1 x he1 h1, mapDL_rel c hh ds es1 xr hes1 h2⟩
      · cases e
    · cases e
end
theorem cpN_rel {bor : Bool} {F F2 : Fm} {S : Sto} {H : Hp} (c : CpTo bor F F2) (R : Rep F S H)
    (hl : ∀ (n : Nat) (c : Cell) (a : Addr) (o : HO), S[n]? = some c → c.live = true → F.lm[n]? = some a → H a = some o → if bor then F2.B a = some o else F2.G a = some o) :
    ∀ (k n : Nat) (d : DV) (a : Addr), cpN bor k S n = some d → F.lm[n]? = some a → Rel F2 d (.ref a)
  | 0, n, d, a, e, _ => by cases e
  | k + 1, n, d, a, e, ha => by
    have ih := cpN_rel c R hl k
    unfold cpN at e
    split at e
    · rename_i ds hc
      obtain ⟨⟨xs, e2, hr⟩, _⟩ := R.cell n _ a hc ha
      have q := hl n _ a _ hc rfl ha e2
      split at e
      · rename_i es he
        cases e
        have hl2 := mapDL_rel c ih ds es xs he hr
        cases bor with
        | true => exact ⟨a, xs, rfl, .inl q, hl2⟩
        | false => exact ⟨a, xs, rfl, q, hl2⟩
      · cases e
    · rename_i ks ds hc
      obtain ⟨⟨xs, hz, e2, hr⟩, _⟩ := R.cell n _ a hc ha
      have q := hl n _ a _ hc rfl ha e2
      split at e
      · rename_i es he
        cases e
        have hl2 := mapDL_rel c ih ds es xs he hr
        have hz2 := hz.trans (hr.length.trans hl2.length.symm)
        cases bor with
        | true => exact ⟨a, xs, rfl, hz2, .inr ⟨(fun z => nomatch z), q⟩, hl2⟩
        | false => exact ⟨a, xs, rfl, hz2, .inl q, hl2⟩
      · cases e
    · rename_i ks ds hc
      obtain ⟨⟨xs, hz, e2, hr⟩, _⟩ := R.cell n _ a hc ha
      have q := hl n _ a _ hc rfl ha e2
      split at e
      · rename_i es he
        cases e
        have hl2 := mapDL_rel c ih ds es xs he hr
        have hz2 := hz.trans (hr.length.trans hl2.length.symm)
        cases bor with
        | true => exact ⟨a, xs, rfl, hz2, .inr ⟨(fun z => nomatch z), q⟩, hl2⟩
        | false => exact ⟨a, xs, rfl, hz2, .inl q, hl2⟩
      · cases e
    · rename_i d0 hc
      obtain ⟨hr, _⟩ := R.cell n _ a hc ha
      exact mapD_rel c ih d0 d (.ref a) e hr
    · cases e
/-- all arguments as borrowed values -/
theorem cpL_bor {F : Fm} {S : Sto} {H : Hp} (R : Rep F S H) {ds es : List DV} {vs : List V} (e : cpL true S ds = some es) (r : RelL F ds vs) : RelL ⟨F.K, F.G, H, fun _ => none, []⟩ es vs :=
  have c : CpTo true F ⟨F.K, F.G, H, fun _ => none, []⟩ := ⟨rfl, Same.refl _, fun _ => R.b⟩
  mapDL_rel c (cpN_rel c R (fun n c a o h l e1 e2 => by rw [if_pos rfl]; exact e2) _) ds es vs e r
theorem rep_empty {F : Fm} {S : Sto} {H : Hp} (R : Rep F S H) : Rep ⟨F.K, F.G, H, fun _ => none, []⟩ [] H :=
  ⟨R.g, Same.refl _, (fun _ _ q => nomatch q), R.tup, rfl, fun n c a h _ => by simp at h, fun n m c c' a h => by simp at h⟩

/-! ### defs -/
def runF (np n : Nat) (body : DS) : PL := fun ds S => if ds.length = np then (match body (ds.map some ++ List.replicate (n - ds.length) none) S with
  | some (.rt d S') => some (d, S')
  | some (.nx _ S') => some (.non, S')
  | _ => none) else none
def spS (K : PySem.W.Frag) (np : Nat) (f : PL) : Sp := fun vs H Q _ => ∃ F S ds d S', F.K = K ∧ Rep F S H ∧ RelL F ds vs ∧ ds.length = np ∧ f ds S = some (d, S') ∧ PostE F S' d Q
theorem relE_start {F : Fm} {ds : List DV} {vs : List V} (r : RelL F ds vs) (N : List Str) : RelE F (ds.map some ++ List.replicate (N.length - ds.length) none) (L2.start N vs) := by
  have hl := r.length
  refine ⟨by unfold L2.start; simp [hl], fun i d e => ?_⟩
  unfold L2.start
  by_cases q : i < ds.length
  · rw [List.getElem?_append_left (by simpa using q)] at e
    rw [List.getElem?_append_left (by simp; omega)]
    rw [List.getElem?_map] at e
    cases e2 : ds[i]? with
    | none =>
      rw [e2] at e
      cases e
    | some d2 =>
      rw [e2] at e
      have e3 : d2 = d := Option.some.inj (Option.some.inj e)
      subst e3
      obtain ⟨v, e4, e5⟩ := r.get e2
      exact ⟨v, by rw [List.getElem?_map, e4] <;> rfl, e5⟩
  · rw [List.getElem?_append_right (by simp; omega)] at e
    have := List.getElem?_eq_some_iff.mp e
    obtain ⟨h1, h2⟩ := this
    rw [List.getElem_replicate] at h2
    cases h2
section
variable {P : Program} {w : World} {K : PySem.W.Frag} {mg : Str → Option Value} {base : Heap} {x qual : Str} {params : Arguments} {body : List Stmt} {scope : Scope} {dvs : List V} {kws : List (Str × V)} {f : Addr} {fd : FuncData}
/-- a def whose body is known as a denotation -/
theorem fn_ok {N ps : List Str} {k : Nat} {b : DS} (F : FunD K x qual params body scope dvs kws f fd) (S : FnScope N ps scope)
    (hb : ∀ (cdv : Value) (A : Around) (outer : List Env) (s : Shared) (H : Hp) (E : XK), Room k (A.deeper (envOfC qual scope s.heap.objs.size f cdv)) → SDs (cxOf CX0 P w K mg base N qual scope f cdv A outer s H E).nox body b) :
    FnOk P w K mg base CX0 (k + 1) f fd ps (spS K ps.length (runF ps.length N.length b)) := by
  refine F.ok S (fun vs H Q E h => ?_) (fun cdv A outer s H vs Q E hr h => ?_)
  · obtain ⟨F, S, ds, d, S', hk, R, r, hn, _⟩ := h
    rw [← r.length, hn]
  · refine ⟨_, (hb cdv A outer s H E hr).ps.nox, ?_⟩
    obtain ⟨F, S, ds, d, S', hk, R, r, hn, e, hq⟩ := h
    unfold runF at e
    rw [if_pos hn] at e
    split at e
    · rename_i d' S2 h1
      cases e
      exact ⟨F, S, _, _, hk, R, relE_start r N, h1, fun F' H' le R' v rv => hq F' H' v le R' rv⟩
    · rename_i ρ' S2 h1
      cases e
      exact ⟨F, S, _, _, hk, R, relE_start r N, h1, fun F' H' le R' σ' _ => hq F' H' .non le R' rfl⟩
    · cases e
end

/-! ### calls -/
/-- a call that shares the store -/
def cS (f : PL) (dds : List DV) : PL := fun xs S => f (xs ++ dds) S
theorem ok_cS {K : PySem.W.Frag} {np : Nat} {f : PL} {dds : List DV} {dvs : List V} {E : XK} (hd : ∀ F : Fm, RelL F dds dvs) (hn : ∀ xs S z, f xs S = some z → xs.length = np) : OkL K (cS f dds) (fun vs H Q => spS K np f (vs ++ dvs) H Q E) :=
  fun F S H xs vs d S' Q hk R r hp hq => ⟨F, S, xs ++ dds, d, S', hk, R, r.append (hd F), hn _ _ _ hp, hp, hq⟩
theorem runF_len {np n : Nat} {b : DS} : ∀ xs S z, runF np n b xs S = some z → xs.length = np := fun xs S z h => by
  unfold runF at h
  exact (of_ite h).1
/-- a call with a store of its own: a function of the arguments' values -/
def pureOf (f : PL) : List DV → Option DV := fun ds => match f ds [] with
  | some (d, S') => cpD false S' d
  | none => none
def cP (p : List DV → Option DV) (dds : List DV) : PL := fun xs S => match cpL true S (xs ++ dds) with
  | some ys => (match p ys with
    | some d => some (d, S)
    | none => none)
  | none => none
/-- behind a call with a store of its own: all new objects are frozen -/
def newG (G H H' : Hp) : Hp := fun a => match G a with
  | some o => some o
  | none => if H a = none then H' a else none
theorem newG_same {G H H' : Hp} : Same G (newG G H H') := fun a o e => by
  unfold newG
  rw [e]
theorem after_pure {F Fc : Fm} {S S' : Sto} {H H' : Hp} (R : Rep F S H) (le : Le ⟨F.K, F.G, H, fun _ => none, []⟩ Fc) (R' : Rep Fc S' H') {ex : Addr → Prop} [DecidablePred ex] (hex : ∀ a, ex a → Fc.G a = none ∧ H a = none) (hexT : ∀ a xs, ex a → H' a ≠ some (.tup xs)) :
    Rep { F with G := fun a => if ex a then none else newG Fc.G H H' a } S H' ∧ Le F { F with G := fun a => if ex a then none else newG Fc.G H H' a } := by
  have hB : Fc.B = H := le.b
  have sHH : Same H H' := by
    have := R'.b
    rw [hB] at this
    exact this
  have sG : Same F.G (fun a => if ex a then none else newG Fc.G H H' a) := fun a o e => by
    have e1 : Fc.G a = some o := le.g _ _ e
    by_cases q : ex a
    · rw [(hex a q).1] at e1
      cases e1
    · show (if ex a then none else newG Fc.G H H' a) = some o
      rw [if_neg q]
      exact newG_same _ _ e1
  have at_ : ∀ a o, (if ex a then none else newG Fc.G H H' a) = some o → (Fc.G a = some o ∨ (H a = none ∧ H' a = some o)) := fun a o e => by
    by_cases q : ex a
    · rw [if_pos q] at e
      cases e
    · rw [if_neg q] at e
      unfold newG at e
      split at e
      · rename_i o' h1
        cases e
        exact .inl h1
      · split at e
        · exact .inr ⟨by assumption, e⟩
        · cases e
  refine ⟨⟨fun a o e => ?_, fun a o e => sHH _ _ (R.b _ _ e), fun a o e => sHH _ _ (R.p _ _ e), fun a xs e => ?_, R.len, fun n c a h e => ?_, R.inj⟩, ⟨rfl, rfl, rfl, sG, fun a o e => ?_, List.prefix_refl _⟩⟩
  · rcases at_ a o e with h | ⟨_, h⟩
    · exact R'.g _ _ h
    · exact h
  · have h1 := R'.tup _ _ e
    show (if ex a then none else newG Fc.G H H' a) = _
    rw [if_neg fun q => hexT a xs q e]
    exact newG_same _ _ h1
  · obtain ⟨k1, k2⟩ := R.cell n c a h e
    have wk1 : Wk F { F with G := fun a => if ex a then none else newG Fc.G H H' a } := ⟨rfl, Same.refl _, sG, List.prefix_refl _⟩
    refine ⟨CellOk.wk (F := F) wk1 (fun _ _ _ e => e) k1 fun l => ?_, fun l => ⟨?_, (k2 l).2⟩⟩
    · obtain ⟨o, e1, _⟩ := k1.some l
      rw [e1]
      exact sHH _ _ e1
    · obtain ⟨o, e1, _⟩ := k1.some l
      show (if ex a then none else newG Fc.G H H' a) = none
      cases q : (if ex a then none else newG Fc.G H H' a) with
      | none => rfl
      | some u =>
        rcases at_ a u q with h | ⟨h, _⟩
        · rcases le.n a u h with h2 | h2
          · have h3 : F.G a = some u := h2
            rw [(k2 l).1] at h3
            cases h3
          · have h3 : H a = none := h2.1
            rw [e1] at h3
            cases h3
        · rw [e1] at h
          cases h
  · rcases at_ a o e with h | ⟨h, _⟩
    · rcases le.n a o h with h2 | h2
      · exact .inl h2
      · have h3 : H a = none := h2.1
        exact .inr ⟨R.b.free h3, R.p.free h3⟩
    · exact .inr ⟨R.b.free h, R.p.free h⟩
theorem ok_cP {K : PySem.W.Frag} {np : Nat} {f : PL} {dds : List DV} {dvs : List V} {E : XK} (hd : ∀ F : Fm, RelL F dds dvs) (hn : ∀ xs S z, f xs S = some z → xs.length = np) : OkL K (cP (pureOf f) dds) (fun vs H Q => spS K np f (vs ++ dvs) H Q E) :=
  fun F S H xs vs d S' Q hk R r hp hq => by
    unfold cP at hp
    split at hp
    · rename_i ys hy
      split at hp
      · rename_i d0 hp0
        cases hp
        unfold pureOf at hp0
        split at hp0
        · rename_i d1 S1 hf
          refine ⟨⟨F.K, F.G, H, fun _ => none, []⟩, [], ys, d1, S1, hk, rep_empty R, cpL_bor R hy (r.append (hd F)), hn _ _ _ hf, hf, fun Fc H' v le R' rv => ?_⟩
          obtain ⟨R2, le2⟩ := after_pure R le R' (ex := fun _ => False) (fun _ q => q.elim) (fun _ _ q => q.elim)
          refine hq _ _ v le2 R2 ?_
          have hB : Fc.B = H := le.b
          have c : CpTo false Fc { F with G := fun a => if False then none else newG Fc.G H H' a } := ⟨le.k.symm, fun a o e => newG_same _ _ e, fun q => nomatch q⟩
          refine mapD_rel c (cpN_rel c R' (fun n cc a o h l e1 e2 => ?_) _) d1 d v hp0 rv
          rw [if_neg Bool.false_ne_true]
          obtain ⟨_, k2⟩ := R'.cell n cc a h e1
          obtain ⟨ga, ba⟩ := k2 l
          show newG Fc.G H H' a = some o
          unfold newG
          rw [ga]
          show (if H a = none then H' a else none) = some o
          rw [← hB, if_pos ba.1, e2]
        · cases hp0
      · cases hp
    · cases hp
def cM (p : List DV → Option (List DV)) (dds : List DV) : PL := fun xs S => match cpL true S (xs ++ dds) with
  | some ys => (match p ys with
    | some es => some (.loc S.length, S ++ [.lst es])
    | none => none)
  | none => none
section
variable {X : Cx} {e : Expr}
theorem ed_call {es : List Expr} {sp : Sp} {dvs : List V} {E : XK} {p : PL} {fa : DA} (hpe : ∀ {t : TA}, PA X es t → PE X e (tCall sp dvs E t)) (hp : OkL X.K p (fun vs H Q => sp (vs ++ dvs) H Q E)) (ha : AD X es fa) : ED X e (dPrim p fa) :=
  .of (hpe ha.pa) fun F S H ρ σ d S' Q hk R rr hf hq => prim_go hp hk R rr hf hq
end
end Dn

namespace Dn
open PySem PySem.Spec PyProof.Rows L2

/-! ### comprehensions -/
theorem wipe_get {σ : L2.St} : ∀ {vs : List Nat} {j : Nat}, (wipe σ vs)[j]? = if j ∈ vs then (σ[j]?).map (fun _ => none) else σ[j]?
  | [], j => by rw [if_neg (by simp)] <;> rfl
  | v :: vs, j => by
    unfold wipe
    by_cases q : v = j
    · subst q
      rw [if_pos (by simp)]
      by_cases hv : v < σ.length
      · rw [List.getElem?_set_self (by rw [wipe_length]; exact hv), List.getElem?_eq_getElem hv] <;> rfl
      · rw [List.getElem?_eq_none (by rw [List.length_set, wipe_length]; omega), List.getElem?_eq_none (by omega)] <;> rfl
    · rw [List.getElem?_set_ne q, wipe_get (vs := vs)]
      by_cases hm : j ∈ vs
      · rw [if_pos hm, if_pos (by simp [hm])]
      · rw [if_neg hm, if_neg (by simp [hm]; exact fun z => q z.symm)]
theorem wipe_set {σ : L2.St} {vs : List Nat} {i : Nat} {x : Option V} (h : i ∈ vs) : wipe (σ.set i x) vs = wipe σ vs := by
  apply List.ext_getElem?
  intro j
  rw [wipe_get, wipe_get]
  by_cases q : i = j
  · subst q
    rw [if_pos h, if_pos h]
    by_cases hl : i < σ.length
    · rw [List.getElem?_set_self hl, List.getElem?_eq_getElem hl] <;> rfl
    · rw [List.getElem?_eq_none (by simp; omega), List.getElem?_eq_none (by omega)]
  · rw [List.getElem?_set_ne q]
theorem wipe_wipe {σ : L2.St} {vs : List Nat} : wipe (wipe σ vs) vs = wipe σ vs := by
  apply List.ext_getElem?
  intro j
  rw [wipe_get, wipe_get]
  by_cases h : j ∈ vs
  · rw [if_pos h, if_pos h, Option.map_map] <;> rfl
  · rw [if_neg h]
def dwipe (ρ : Ev) : List Nat → Ev
  | [] => ρ
  | v :: vs => (dwipe ρ vs).set v none
theorem relE_wipe {F : Fm} {ρ : Ev} {σ : L2.St} (r : RelE F ρ σ) : ∀ vs : List Nat, RelE F (dwipe ρ vs) (wipe σ vs)
  | [] => r
  | v :: vs => by
    have ih := relE_wipe r vs
    unfold dwipe wipe
    refine ⟨by simp [ih.len], fun j d e => ?_⟩
    by_cases q : v = j
    · subst q
      have hlt := (List.getElem?_eq_some_iff.mp e).1
      rw [List.length_set] at hlt
      rw [List.getElem?_set_self hlt] at e
      cases e
    · rw [List.getElem?_set_ne q] at e ⊢
      exact ih.at_ j d e
/-- a target of names alone: the heap stays, only the slots vs are set -/
def GW (K : PySem.W.Frag) (t : TG) (g : DG) (vs : List Nat) : Prop := ∀ F S H ρ σ d v ρ' S' (Q : L2.St → Hp → Prop), F.K = K → Rep F S H → RelE F ρ σ → Rel F d v → g d ρ S = some (ρ', S') → (∀ σ', S' = S → RelE F ρ' σ' → wipe σ' vs = wipe σ vs → Q σ' H) → t v σ H Q
theorem gw_name {K : PySem.W.Frag} {i : Nat} {vs : List Nat} (h : i ∈ vs) : GW K (gName i) (gSet i) vs := fun F S H ρ σ d v ρ' S' Q hk R rr rv hf hq => by
  cases (show some (ρ.set i (some d), S) = some (ρ', S') from hf)
  exact hq _ rfl (rr.set i rv) (wipe_set h)
def GWs (K : PySem.W.Frag) (t : TGs) (g : DGs) (vs : List Nat) : Prop := ∀ F S H ρ σ d v ρ' S' (Q : L2.St → Hp → Prop), F.K = K → Rep F S H → RelE F ρ σ → RelL F d v → g d ρ S = some (ρ', S') → (∀ σ', S' = S → RelE F ρ' σ' → wipe σ' vs = wipe σ vs → Q σ' H) → t v σ H Q
theorem gws_nil {K : PySem.W.Frag} {vs : List Nat} : GWs K gNil gsNil vs := fun F S H ρ σ d v ρ' S' Q hk R rr rv hf hq => by
  unfold gsNil at hf
  split at hf
  · cases hf
    exact ⟨rv.nil, hq σ rfl rr rfl⟩
  · cases hf
theorem gws_cons {K : PySem.W.Frag} {vs : List Nat} {t : TG} {u : TGs} {g : DG} {h : DGs} (h1 : GW K t g vs) (h2 : GWs K u h vs) : GWs K (gCons t u) (gsCons g h) vs := fun F S H ρ σ d v ρ' S' Q hk R rr rv hf hq => by
  unfold gsCons at hf
  split at hf
  · rename_i d0 r
    obtain ⟨x, vr, rfl, rx, rl⟩ := rv
    split at hf
    · rename_i ρ1 S1 e1
      refine ⟨x, vr, rfl, h1 F S H ρ σ d0 x ρ1 S1 _ hk R rr rx e1 fun σ1 hS r1 w1 => ?_⟩
      subst hS
      exact h2 F S1 H ρ1 σ1 r vr ρ' S' Q hk R r1 rl hf fun σ2 hS2 r2 w2 => hq σ2 hS2 r2 (w2.trans w1)
    · cases hf
  · cases hf
theorem gw_tup {K : PySem.W.Frag} {vs : List Nat} {n : Nat} {u : TGs} {h : DGs} (h2 : GWs K u h vs) : GW K (gTup K n u) (gTupD n h) vs := fun F S H ρ σ d v ρ' S' Q hk R rr rv hf hq => by
  unfold gTupD at hf
  split at hf
  · rename_i ds
    obtain ⟨hn, hf⟩ := of_ite hf
    obtain ⟨a, xs, rfl, hs, rl⟩ := rv
    exact ⟨a, xs, rfl, SqT.of (R.g _ _ hs), by rw [← rl.length]; exact hn, h2 F S H ρ σ ds xs ρ' S' Q hk R rr rl hf hq⟩
  · cases hf
theorem GW.gd {X : Cx} {e : Expr} {t : TG} {g : DG} {vs : List Nat} (h : GW X.K t g vs) (hp : PG X e t) : GD X e g := .of hp fun F S H ρ σ d v ρ' S' Q hk R rr rv hf hq =>
  h F S H ρ σ d v ρ' S' Q hk R rr rv hf fun σ' hS r _ => by
    subst hS
    exact hq F H σ' (.refl F) R r

def lcL (g : DG) (c fe : DE) (ρ : Ev) : List DV → Sto → Option (List DV × Sto)
  | [], S => some ([], S)
  | d :: ds, S => match g d ρ S with
    | some (ρ1, S1) => (match c ρ1 S1 with
      | some (.bl true, S2) => (match fe ρ1 S2 with
        | some (y, S3) => (match lcL g c fe ρ ds S3 with
          | some (ys, S4) => some (y :: ys, S4)
          | none => none)
        | none => none)
      | some (.bl false, S2) => lcL g c fe ρ ds S2
      | _ => none)
    | none => none
def lcR (it : DI) (g : DG) (c fe : DE) (vs : List Nat) : DA := fun ρ S => match it ρ S with
  | some (ds, S1) => (match lcL g c fe (dwipe ρ vs) ds S1 with
    | some (ys, S2) => if ys.length ≤ sizeLine then some (ys, S2) else none
    | none => none)
  | none => none
def dLc (it : DI) (g : DG) (c fe : DE) (vs : List Nat) : DE := fun ρ S => match lcR it g c fe vs ρ S with
  | some (ys, S2) => some (.lst .own ys, S2)
  | none => none
def dLcM (it : DI) (g : DG) (c fe : DE) (vs : List Nat) : DE := fun ρ S => match lcR it g c fe vs ρ S with
  | some (ys, S2) => some (.loc S2.length, S2 ++ [.lst ys])
  | none => none
def NoCell (F : Fm) (S : Sto) (D : Addr) : Prop := ∀ (n : Nat) (c : Cell), S[n]? = some c → c.live = true → F.lm[n]? ≠ some D
abbrev Fm.prot (F : Fm) (P : Hp) : Fm := { F with P := P }
theorem Rep.prot {F : Fm} {S : Sto} {H : Hp} (R : Rep F S H) {P : Hp} (hP : Same P H) (pf : ∀ a o u, F.P a = some (.frz o u) → P a = some (.frz o u)) (hc : ∀ (n : Nat) (c : Cell) (a : Addr), S[n]? = some c → c.live = true → F.lm[n]? = some a → P a = none) : Rep (F.prot P) S H :=
  ⟨R.g, R.b, hP, R.tup, R.len, fun n c a h e => ⟨CellOk.wk (F := F) (F' := F.prot P) (⟨rfl, Same.refl F.B, Same.refl F.G, List.prefix_refl F.lm⟩ : Wk F (F.prot P)) pf (R.cell n c a h e).1 fun _ => rfl, fun l => ⟨((R.cell n c a h e).2 l).1, ((R.cell n c a h e).2 l).2.1, hc n c a h l e⟩⟩, R.inj⟩
/-- an object that no data leans on is changed -/
theorem Rep.over {F : Fm} {S : Sto} {H : Hp} (R : Rep F S H) {D : Addr} {o : HO} (gD : F.G D = none) (fD : F.free D) (nc : NoCell F S D) (ht : ∀ xs, o ≠ .tup xs) : Rep F S (upd H D o) := by
  refine ⟨same_mono R.g gD, same_mono R.b fD.1, same_mono R.p fD.2, fun a xs e => ?_, R.len, fun n c a h e => ?_, R.inj⟩
  · by_cases q : a = D
    · rw [q, upd_same] at e
      exact absurd (Option.some.inj e) (ht xs)
    · rw [upd_ne q] at e
      exact R.tup _ _ e
  · obtain ⟨k1, k2⟩ := R.cell n c a h e
    exact ⟨k1.wk (Le.refl F).wk (Le.refl F).pf fun l => upd_ne fun q => nc n c h l (by rw [← q]; exact e), k2⟩
/-- an object that is there becomes frozen data -/
theorem Rep.adopt {F : Fm} {S : Sto} {H : Hp} (R : Rep F S H) {p : Addr} {o : HO} (hp : H p = some o) (gp : F.G p = none) (fp : F.free p) (nc : NoCell F S p) : Rep (F.add p o) S H ∧ Le F (F.add p o) := by
  have le := Fm.add_le (F := F) (o := o) gp fp
  refine ⟨⟨fun a u e => ?_, R.b, R.p, fun a xs e => ?_, R.len, fun n c a h e => ?_, R.inj⟩, le⟩
  · have e2 : upd F.G p o a = some u := e
    by_cases q : a = p
    · rw [q, upd_same] at e2
      rw [q, hp]
      exact e2
    · rw [upd_ne q] at e2
      exact R.g _ _ e2
  · show upd F.G p o a = _
    by_cases q : a = p
    · rw [q, upd_same, ← hp, ← q]
      exact e
    · rw [upd_ne q]
      exact R.tup _ _ e
  · obtain ⟨k1, k2⟩ := R.cell n c a h e
    refine ⟨k1.wk le.wk le.pf fun _ => rfl, fun l => ⟨?_, (k2 l).2⟩⟩
    show upd F.G p o a = none
    rw [upd_ne fun q => nc n c h l (by rw [← q]; exact e)]
    exact (k2 l).1
theorem lc_go {K : PySem.W.Frag} {it : DI} {g : DG} {c fe : DE} {vs : List Nat} {t : TG} {tt : TT} (hg : GW K t g vs) (hc : ∀ σ H Q, rdT K c σ H Q → tt σ H Q) {F : Fm} {S S2 : Sto} {H : Hp} {ρ : Ev} {σ : L2.St} {ys : List DV} {Q : VK}
    (hk : F.K = K) (R : Rep F S H) (rr : RelE F ρ σ) (hf : lcR it g c fe vs ρ S = some (ys, S2))
    (hq : ∀ F' H' D xs, Le F F' → Rep F' S2 H' → H' D = some (.lst xs) → RelL F' ys xs → F'.G D = none → F'.free D → NoCell F' S2 D → Q (.ref D) H') : tLc (rdI K it) t tt (rdE K fe) vs σ H Q := by
  unfold lcR at hf
  split at hf
  · rename_i ds S1 h1
    split at hf
    · rename_i ys' S2' h2
      obtain ⟨hsz, hf⟩ := of_ite hf
      cases hf
      refine ⟨F, S, ρ, ds, S1, hk, R, rr, h1, fun J F1 H1 le1 R1 wk D hD => ?_⟩
      have r1 := rr.le le1
      refine ⟨fun i m H => i ≤ ds.length ∧ m = ds.length - i ∧ ∃ F' S' acc accV rest, Le F1 F' ∧ Rep F' S' H ∧ H D = some (.lst accV) ∧ RelL F' acc accV ∧ F'.G D = none ∧ F'.free D ∧ NoCell F' S' D ∧ lcL g c fe (dwipe ρ vs) (ds.drop i) S' = some (rest, S2) ∧ ys = acc ++ rest,
        ⟨ds.length, Nat.zero_le _, rfl, F1, S1, [], [], ys, .refl F1, R1.beside hD (fun _ q => nomatch q), upd_same, rfl, R1.g.free hD, ⟨R1.b.free hD, R1.p.free hD⟩, R1.noCell hD, by rw [List.drop_zero]; exact h2, rfl⟩, ?_⟩
      rintro i m H ⟨hi, rfl, F', S', acc, accV, rest, le', R', eD, ra, gD, fD, nc, hl, ey⟩
      have Pw : Wk F' (F'.prot (upd F'.P D (.lst accV))) := ⟨rfl, Same.refl _, Same.refl _, List.prefix_refl _⟩
      have Rp : Rep (F'.prot (upd F'.P D (.lst accV))) S' H := by
        refine R'.prot (fun a o e => ?_) (fun a o u e => by
          show upd F'.P D (.lst accV) a = _
          rw [upd_ne fun q => by rw [q, fD.2] at e; cases e]
          exact e) fun n c a h l e => ?_
        · by_cases q : a = D
          · rw [q, upd_same] at e
            rw [q, eD]
            exact e
          · rw [upd_ne q] at e
            exact R'.p _ _ e
        · rw [upd_ne fun q => nc n c h l (by rw [← q]; exact e)]
          exact ((R'.cell n c a h e).2 l).2.2
      have wk1 : Wk F1 (F'.prot (upd F'.P D (.lst accV))) := ⟨le'.k, le'.wk.b, le'.g, le'.m⟩
      obtain ⟨w1, w2⟩ := wk i _ S' H wk1 (fun a o u e => by
        show upd F'.P D (.lst accV) a = _
        have e' : F'.P a = some (.frz o u) := by rw [le'.p]; exact e
        rw [upd_ne fun q => by rw [q, fD.2] at e'; cases e']
        exact e') Rp
      by_cases hlt : i < ds.length
      · refine .inr ?_
        obtain ⟨g1, g2⟩ := w2 _ (List.getElem?_eq_getElem hlt)
        rw [List.drop_eq_getElem_cons hlt] at hl
        unfold lcL at hl
        refine ⟨g1, fun H' => ∃ m', m' < ds.length - i ∧ (i + 1 ≤ ds.length ∧ m' = ds.length - (i + 1) ∧ ∃ F' S' acc accV rest, Le F1 F' ∧ Rep F' S' H' ∧ H' D = some (.lst accV) ∧ RelL F' acc accV ∧ F'.G D = none ∧ F'.free D ∧ NoCell F' S' D ∧ lcL g c fe (dwipe ρ vs) (ds.drop (i + 1)) S' = some (rest, S2) ∧ ys = acc ++ rest), fun _ z => z, fun x H2 y => ?_⟩
        obtain ⟨F2, le2, R2, rx⟩ := g2 x H2 y
        have rE2 : RelE F2 (dwipe ρ vs) (wipe σ vs) := relE_wipe ((r1.wk wk1).le le2) vs
        -- what is known behind any part of the turn
        have back : ∀ {F4 : Fm} {S4 : Sto} {H4 : Hp}, Le (F'.prot (upd F'.P D (.lst accV))) F4 → Rep F4 S4 H4 → H4 D = some (.lst accV) ∧ Le F1 (F4.prot F1.P) ∧ F4.G D = none ∧ F4.B D = none ∧ F1.P D = none ∧ NoCell F4 S4 D ∧ Rep (F4.prot F1.P) S4 H4 ∧ RelL F4 acc accV := fun {F4 S4 H4} le4 R4 => by
          have eP : F4.P = upd F'.P D (.lst accV) := le4.p
          have ePD : F4.P D = some (.lst accV) := by rw [eP, upd_same]
          have pp : F'.P = F1.P := le'.p
          have gD4 : F4.G D = none := by
            cases q : F4.G D with
            | none => rfl
            | some o =>
              rcases le4.n D o q with h | h
              · have h2 : F'.G D = some o := h
                rw [gD] at h2
                cases h2
              · have h2 : upd F'.P D (HO.lst accV) D = none := h.2
                rw [upd_same] at h2
                cases h2
          have pD : F1.P D = none := by rw [← pp]; exact fD.2
          have nc4 : NoCell F4 S4 D := fun n c h l e => by
            have h3 := ((R4.cell n c D h e).2 l).2.2
            rw [ePD] at h3
            cases h3
          refine ⟨R4.p _ _ ePD, ⟨le4.k.trans le'.k, le4.b.trans le'.b, rfl, le'.g.trans le4.g, fun a o e => ?_, le'.m.trans le4.m⟩, gD4, ?_, pD, nc4, ?_, RelL.wk (F := F') ?_ _ _ ra⟩
          · rcases le4.n a o e with h | h
            · exact le'.n a o h
            · right
              have h1 : F'.B a = none := h.1
              have h2 : upd F'.P D (HO.lst accV) a = none := h.2
              have h3 : F'.P a = none := by
                by_cases q : a = D
                · rw [q, upd_same] at h2
                  cases h2
                · rw [upd_ne q] at h2
                  exact h2
              exact ⟨by rw [← le'.b]; exact h1, by rw [← pp]; exact h3⟩
          · rw [le4.b]
            exact fD.1
          · refine R4.prot (fun a o e => ?_) (fun a o u e => by
              rw [eP] at e
              by_cases q : a = D
              · rw [q, upd_same] at e
                cases e
              · rw [upd_ne q, pp] at e
                exact e) fun n c a h l e => ?_
            · refine R4.p _ _ ?_
              rw [eP, upd_ne (fun q => by rw [q, pD] at e; cases e), pp]
              exact e
            · have h3 := ((R4.cell n c a h e).2 l).2.2
              rw [eP] at h3
              by_cases q : a = D
              · rw [q]
                exact pD
              · rw [upd_ne q, pp] at h3
                exact h3
          · exact ⟨le4.k, le4.wk.b, le4.g, le4.m⟩
        split at hl
        · rename_i ρ1 S3 hg1
          refine hg F2 S' H2 _ _ _ x ρ1 S3 _ (le2.k.trans (le'.k.trans (le1.k.trans hk))) R2 rE2 rx hg1 fun σ3 hS r3 w3 => ⟨w3.trans wipe_wipe, ?_⟩
          subst hS
          split at hl
          · rename_i S5 hc1
            refine hc _ _ _ (rdT.go (le2.k.trans (le'.k.trans (le1.k.trans hk))) R2 r3 hc1 fun F3 H3 le3 hk3 R3 r4 => ?_)
            rw [if_pos rfl]
            split at hl
            · rename_i y1 S6 he1
              split at hl
              · rename_i ys7 S7 hl7
                cases hl
                refine rdE.go hk3 R3 r4 he1 fun F4 H4 v le4 hk4 R4 r5 rv => ?_
                obtain ⟨b1, b2, b3, b4, b5, b6, b7, b8⟩ := back ((le2.trans le3).trans le4) R4
                have hlen := ra.length
                refine ⟨accV, b1, ?_, _, by omega, hlt, rfl, F4.prot F1.P, S6, acc ++ [y1], accV ++ [v], ys7, b2, b7.over b3 ⟨b4, b5⟩ b6 (fun _ q => nomatch q), upd_same, ?_, b3, ⟨b4, b5⟩, b6, hl7, by rw [ey, List.append_assoc] <;> rfl⟩
                · rw [ey] at hsz
                  simp at hsz
                  omega
                · exact RelL.wk (F := F4) (F' := F4.prot F1.P) (⟨rfl, Same.refl F4.B, Same.refl F4.G, List.prefix_refl F4.lm⟩ : Wk F4 (F4.prot F1.P)) _ _ (b8.append (RelL.cons rv rfl))
              · cases hl
            · cases hl
          · rename_i S5 hc1
            refine hc _ _ _ (rdT.go (le2.k.trans (le'.k.trans (le1.k.trans hk))) R2 r3 hc1 fun F3 H3 le3 hk3 R3 r4 => ?_)
            rw [if_neg Bool.false_ne_true]
            obtain ⟨b1, b2, b3, b4, b5, b6, b7, b8⟩ := back (le2.trans le3) R3
            exact ⟨_, by omega, hlt, rfl, F3.prot F1.P, S5, acc, accV, rest, b2, b7, b1, RelL.wk (F := F3) (F' := F3.prot F1.P) (⟨rfl, Same.refl F3.B, Same.refl F3.G, List.prefix_refl F3.lm⟩ : Wk F3 (F3.prot F1.P)) _ _ b8, b3, ⟨b4, b5⟩, b6, hl, ey⟩
          · cases hl
        · cases hl
      · have e : i = ds.length := by omega
        subst e
        rw [List.drop_length] at hl
        cases (show some (([] : List DV), S') = some (rest, S2) from hl)
        rw [List.append_nil] at ey
        subst ey
        exact .inl ⟨w1 rfl, hq F' H D accV (le1.trans le') R' eD ra gD fD nc⟩
    · cases hf
  · cases hf
theorem lc_own {K : PySem.W.Frag} {it : DI} {g : DG} {c fe : DE} {vs : List Nat} {t : TG} {tt : TT} (hg : GW K t g vs) (hc : ∀ σ H Q, rdT K c σ H Q → tt σ H Q) {F : Fm} {S S' : Sto} {H : Hp} {ρ : Ev} {σ : L2.St} {d : DV} {Q : VK}
    (hk : F.K = K) (R : Rep F S H) (rr : RelE F ρ σ) (hf : dLc it g c fe vs ρ S = some (d, S')) (hq : PostE F S' d Q) : tLc (rdI K it) t tt (rdE K fe) vs σ H Q := by
  unfold dLc at hf
  split at hf
  · rename_i ys S2 h
    cases hf
    refine lc_go hg hc hk R rr h fun F' H' D xs le R' eD r gD fD nc => ?_
    obtain ⟨R2, le2⟩ := R'.adopt eD gD fD nc
    exact hq _ _ _ (le.trans le2) R2 ⟨D, xs, rfl, upd_same, r.le le2⟩
  · cases hf
theorem lc_mut {K : PySem.W.Frag} {it : DI} {g : DG} {c fe : DE} {vs : List Nat} {t : TG} {tt : TT} (hg : GW K t g vs) (hc : ∀ σ H Q, rdT K c σ H Q → tt σ H Q) {F : Fm} {S S' : Sto} {H : Hp} {ρ : Ev} {σ : L2.St} {d : DV} {Q : VK}
    (hk : F.K = K) (R : Rep F S H) (rr : RelE F ρ σ) (hf : dLcM it g c fe vs ρ S = some (d, S')) (hq : PostE F S' d Q) : tLc (rdI K it) t tt (rdE K fe) vs σ H Q := by
  unfold dLcM at hf
  split at hf
  · rename_i ys S2 h
    cases hf
    refine lc_go hg hc hk R rr h fun F' H' D xs le R' eD r gD fD nc => ?_
    have R2 := R'.cell_new (c := .lst ys) ⟨xs, eD, r.le (F'.cell_le D)⟩ gD fD nc
    exact hq _ _ _ (le.trans (F'.cell_le D)) R2 ⟨D, by rw [← R'.len]; exact get_len _ _, rfl⟩
  · cases hf
theorem yes_of {K : PySem.W.Frag} : ∀ σ H Q, rdT K (dC (.bl true)) σ H Q → tYes σ H Q := fun σ H Q h => by
  obtain ⟨F, S, ρ, b, S', hk, R, rr, e, hq⟩ := h
  cases (show some (DV.bl true, S) = some (DV.bl b, S') from e)
  exact hq F H (.refl F) R
theorem same_of {K : PySem.W.Frag} {c : DE} : ∀ σ H Q, rdT K c σ H Q → rdT K c σ H Q := fun _ _ _ h => h
section
variable {X : Cx} {e : Expr} {st : Stmt} {it : DI} {g : DG} {c fe : DE} {vs : List Nat} {t : TG} {tt : TT}
theorem ed_lc (h : PE X e (tLc (rdI X.K it) t tt (rdE X.K fe) vs)) (hg : GW X.K t g vs) (hc : ∀ σ H Q, rdT X.K c σ H Q → tt σ H Q) : ED X e (dLc it g c fe vs) :=
  .of h fun F S H ρ σ d S' Q hk R rr hf hq => lc_own hg hc hk R rr hf hq
/-- name = [..] -/
theorem sd_setLc {i : Nat} (h : PS X st (tAsg (tLc (rdI X.K it) t tt (rdE X.K fe) vs) (gName i))) (hg : GW X.K t g vs) (hc : ∀ σ H Q, rdT X.K c σ H Q → tt σ H Q) : SD X st (dSet i (dLc it g c fe vs)) :=
  sd_set ⟨fun pins s σ H D I hw => h.run pins s σ H D I (by
    obtain ⟨F, S, ρ, d, S', hk, R, rr, hf, hq⟩ := hw
    exact lc_own hg hc hk R rr hf hq)⟩
theorem sd_setLcM {i : Nat} (h : PS X st (tAsg (tLc (rdI X.K it) t tt (rdE X.K fe) vs) (gName i))) (hg : GW X.K t g vs) (hc : ∀ σ H Q, rdT X.K c σ H Q → tt σ H Q) : SD X st (dSet i (dLcM it g c fe vs)) :=
  sd_set ⟨fun pins s σ H D I hw => h.run pins s σ H D I (by
    obtain ⟨F, S, ρ, d, S', hk, R, rr, hf, hq⟩ := hw
    exact lc_mut hg hc hk R rr hf hq)⟩
end
end Dn

namespace Dn
open PySem PySem.Spec PyProof.Rows L2

/-! ### what a value holds -/
def asL (S : Sto) : DV → Option (List DV)
  | .lst _ ds => some ds
  | .loc n => match S[n]? with
    | some (.lst ds) => some ds
    | some (.frz (.lst _ ds)) => some ds
    | _ => none
  | _ => none
/-- a list that is tracked as such (not the script, not the module's own) -/
def asT (S : Sto) : DV → Option (List DV)
  | .lst .own ds => some ds
  | .lst .bor ds => some ds
  | .loc n => match S[n]? with
    | some (.lst ds) => some ds
    | some (.frz (.lst .own ds)) => some ds
    | _ => none
  | _ => none
section
variable {F : Fm} {S : Sto} {H : Hp} {d : DV} {v : V} {ds : List DV}
theorem Rel.lstSq {k : LK} (R : Rep F S H) (r : Rel F (.lst k ds) v) : ∃ a xs, v = .ref a ∧ SqL F.K H a xs ∧ RelL F ds xs := by
  cases k with
  | own =>
    obtain ⟨a, xs, rfl, h, rl⟩ := r
    exact ⟨a, xs, rfl, SqL.of (R.g _ _ h), rl⟩
  | bor =>
    obtain ⟨a, xs, rfl, h, rl⟩ := r
    exact ⟨a, xs, rfl, SqL.of (h.elim (R.b _ _) (R.g _ _)), rl⟩
  | ext =>
    obtain ⟨a, xs, rfl, h, rl⟩ := r
    exact ⟨a, xs, rfl, sqL_same R.g h, rl⟩
theorem asL_sq (R : Rep F S H) (r : Rel F d v) (h : asL S d = some ds) : ∃ a xs, v = .ref a ∧ SqL F.K H a xs ∧ RelL F ds xs := by
  cases d with
  | lst k es =>
    cases (show some es = some ds from h)
    exact r.lstSq R
  | loc n =>
    obtain ⟨a, ha, rfl⟩ := r
    unfold asL at h
    simp only at h
    split at h
    · rename_i es hc
      cases h
      obtain ⟨⟨xs, e, rl⟩, _⟩ := R.cell n _ a hc ha
      exact ⟨a, xs, rfl, SqL.of e, rl⟩
    · rename_i k es hc
      cases h
      obtain ⟨rl, _⟩ := R.cell n _ a hc ha
      exact (show Rel F (.lst k ds) (.ref a) from rl).lstSq R
    · cases h
  | _ => cases h
theorem asT_sq (R : Rep F S H) (r : Rel F d v) (h : asT S d = some ds) : ∃ a xs, v = .ref a ∧ H a = some (.lst xs) ∧ RelL F ds xs := by
  cases d with
  | lst k es =>
    cases k with
    | own =>
      cases (show some es = some ds from h)
      obtain ⟨a, xs, rfl, h, rl⟩ := r
      exact ⟨a, xs, rfl, R.g _ _ h, rl⟩
    | bor =>
      cases (show some es = some ds from h)
      obtain ⟨a, xs, rfl, h, rl⟩ := r
      exact ⟨a, xs, rfl, h.elim (R.b _ _) (R.g _ _), rl⟩
    | ext => cases h
  | loc n =>
    obtain ⟨a, ha, rfl⟩ := r
    unfold asT at h
    simp only at h
    split at h
    · rename_i es hc
      cases h
      obtain ⟨⟨xs, e, rl⟩, _⟩ := R.cell n _ a hc ha
      exact ⟨a, xs, rfl, e, rl⟩
    · rename_i es hc
      cases h
      obtain ⟨rl, _⟩ := R.cell n _ a hc ha
      obtain ⟨b, xs, e1, h, rl⟩ := (show Rel F (.lst .own ds) (.ref a) from rl)
      cases e1
      exact ⟨a, xs, rfl, R.g _ _ h, rl⟩
    · cases h
  | _ => cases h
theorem tup_sq (R : Rep F S H) (r : Rel F (.tup ds) v) : ∃ a xs, v = .ref a ∧ SqT F.K H a xs ∧ RelL F ds xs := by
  obtain ⟨a, xs, rfl, h, rl⟩ := r
  exact ⟨a, xs, rfl, SqT.of (R.g _ _ h), rl⟩
theorem tup_at (R : Rep F S H) (r : Rel F (.tup ds) v) : ∃ a xs, v = .ref a ∧ H a = some (.tup xs) ∧ RelL F ds xs := by
  obtain ⟨a, xs, rfl, h, rl⟩ := r
  exact ⟨a, xs, rfl, R.g _ _ h, rl⟩
theorem tupx_sq (R : Rep F S H) (r : Rel F (.tupx ds) v) : ∃ a xs, v = .ref a ∧ SqT F.K H a xs ∧ RelL F ds xs := by
  obtain ⟨a, xs, rfl, h, rl⟩ := r
  exact ⟨a, xs, rfl, sqT_same R.g h.t, rl⟩
end

/-! ### arithmetic -/
abbrev PI2 := Int → Int → Option Int
def pI (g : PI2) : P2 := fun x y S => match x, y with
  | .int i, .int j => (match g i j with
    | some k => some (.int k, S)
    | none => none)
  | _, _ => none
theorem ok_I {K : PySem.W.Frag} {C : Int → Int → Prop} {g : Int → Int → Int} {p : PI2} (h : ∀ i j k, p i j = some k → C i j ∧ k = g i j) : Ok2 K (pI p) (rI C fun i j => .int (g i j)) :=
  fun F S H x y vx vy d S' Q hk R rx ry hp hq => by
    unfold pI at hp
    split at hp
    · rename_i i j
      split at hp
      · rename_i k hk
        cases hp
        obtain ⟨hc, rfl⟩ := h _ _ _ hk
        exact ⟨i, j, rx, ry, hc, hq F H _ (.refl F) R rfl⟩
      · cases hp
    · cases hp
theorem ok_I0 {K : PySem.W.Frag} {g : Int → Int → Int} : Ok2 K (pI fun i j => some (g i j)) (rI0 fun i j => .int (g i j)) :=
  fun F S H x y vx vy d S' Q hk R rx ry hp hq => by
    unfold pI at hp
    split at hp
    · cases hp
      exact ⟨_, _, rx, ry, hq F H _ (.refl F) R rfl⟩
    · cases hp
def gSub : PI2 := fun i j => some (i - j)
def gMul : PI2 := fun i j => if (i.natAbs < 18446744073709551616 ∨ j.natAbs < 18446744073709551616) ∨ i.natAbs.log2 + j.natAbs.log2 < 1000000 then some (i * j) else none
def gMod : PI2 := fun i j => if 0 < j then some (i % j) else none
def gPow : PI2 := fun i j => if 0 ≤ j ∧ j ≤ 1000000 ∧ i.natAbs < 18446744073709551616 then some (i ^ j.toNat) else none
def gAnd : PI2 := fun i j => some (Builtin.bitAnd i j)
def gOr : PI2 := fun i j => some (Builtin.bitOr i j)
def gXor : PI2 := fun i j => some (Builtin.bitXor i j)
abbrev pSub : P2 := pI gSub
abbrev pMod : P2 := pI gMod
abbrev pPow : P2 := pI gPow
abbrev pAnd : P2 := pI gAnd
abbrev pOr : P2 := pI gOr
abbrev pXor : P2 := pI gXor
theorem of_ite2 {α : Type} {c : Prop} [Decidable c] {x z : α} (h : (if c then some x else none) = some z) : c ∧ z = x := by
  obtain ⟨h1, h2⟩ := of_ite h
  exact ⟨h1, (Option.some.inj h2).symm⟩
section
variable {X : Cx} {a b : Expr} {f g : DE} {pos : Pos}
theorem ed_sub (ha : ED X a f) (hb : ED X b g) : ED X (.BinOp a .Sub b pos) (dBin pSub f g) := ed_bin op_sub ok_I0 ha hb
theorem ed_mod (ha : ED X a f) (hb : ED X b g) : ED X (.BinOp a .Mod b pos) (dBin pMod f g) := ed_bin op_mod (ok_I fun i j k h => by unfold gMod at h; have h2 := of_ite2 h; exact h2) ha hb
theorem ed_pow (ha : ED X a f) (hb : ED X b g) : ED X (.BinOp a .Pow b pos) (dBin pPow f g) := ed_bin op_pow (ok_I fun i j k h => by unfold gPow at h; have h2 := of_ite2 h; exact ⟨⟨h2.1.1, h2.1.2.1, by have := h2.1.2.2; omega⟩, h2.2⟩) ha hb
def pNeg : P1 := fun x S => match x with
  | .int i => some (.int (-i), S)
  | _ => none
theorem ed_neg (ha : ED X a f) : ED X (.UnaryOp .USub a pos) (dUn pNeg f) := ed_un un_neg (fun F S H x vx d S' Q hk R rx hp hq => by
  unfold pNeg at hp
  split at hp
  · cases hp
    exact ⟨_, rx, hq F H _ (.refl F) R rfl⟩
  · cases hp) ha
end
/-! ### + and * over more kinds -/
def pAdd : P2 := fun x y S => match x, y with
  | .int i, .int j => some (.int (i + j), S)
  | .str a, .str b => if a.length + b.length ≤ sizeLine then some (.str (a ++ b), S) else none
  | .tup xs, .tup ys => if xs.length + ys.length ≤ sizeLine then some (.tup (xs ++ ys), S) else none
  | x, y => (match asT S x, asT S y with
    | some xs, some ys => if xs.length + ys.length ≤ sizeLine then some (.lst .own (xs ++ ys), S) else none
    | _, _ => none)
def pAddM : P2 := fun x y S => match asT S x, asT S y with
  | some xs, some ys => if xs.length + ys.length ≤ sizeLine then some (.loc S.length, S ++ [.lst (xs ++ ys)]) else none
  | _, _ => none
abbrev rAddAll (K : PySem.W.Frag) : R2 := fun x y H Q => (rI0 fun i j => .int (i + j)) x y H Q ∨ (fun x y H Q => (fun x y H Q => ∃ i j, x = .str i ∧ y = .str j ∧ i.length + j.length ≤ sizeLine ∧ Q (.str (i ++ j)) H) x y H Q ∨ (fun x y H Q => rCat x y H Q ∨ rCatA K x y H Q) x y H Q) x y H Q
theorem op_addAll {X : Cx} : OpR X (binaryOp .Add) (rAddAll X.K) := op_add.or (op_add_str.or (op_cat.or op_catA))
theorem ok_add {K : PySem.W.Frag} : Ok2 K pAdd (rAddAll K) := fun F S H x y vx vy d S' Q hk R rx ry hp hq => by
  unfold pAdd at hp
  split at hp
  · cases hp
    exact .inl ⟨_, _, rx, ry, hq F H _ (.refl F) R rfl⟩
  · obtain ⟨h1, h2⟩ := of_ite hp
    cases h2
    exact .inr (.inl ⟨_, _, rx, ry, h1, hq F H _ (.refl F) R rfl⟩)
  · rename_i xs ys
    obtain ⟨h1, h2⟩ := of_ite hp
    cases h2
    obtain ⟨a, us, rfl, sa, ra⟩ := tup_sq R rx
    obtain ⟨b, ws, rfl, sb, rb⟩ := tup_sq R ry
    rw [hk] at sa sb
    refine .inr (.inr (.inr ⟨a, b, us, ws, rfl, rfl, sa, sb, by rw [← ra.length, ← rb.length]; exact h1, fun e => ?_, fun n e => ?_, fun n1 n2 => new_tup R (ra.append rb) hq⟩))
    · have e2 : xs = [] := List.eq_nil_of_length_eq_zero (by rw [ra.length, e]; rfl)
      subst e2
      exact hq F H _ (.refl F) R ry
    · have e2 : ys = [] := List.eq_nil_of_length_eq_zero (by rw [rb.length, e]; rfl)
      subst e2
      rw [List.append_nil] at hq
      exact hq F H _ (.refl F) R rx
  · split at hp
    · rename_i xs ys h1 h2
      obtain ⟨h3, h4⟩ := of_ite hp
      cases h4
      obtain ⟨a, us, rfl, sa, ra⟩ := asT_sq R rx h1
      obtain ⟨b, ws, rfl, sb, rb⟩ := asT_sq R ry h2
      exact .inr (.inr (.inl ⟨a, b, us, ws, rfl, rfl, sa, sb, by rw [← ra.length, ← rb.length]; exact h3, new_lst R (ra.append rb) hq⟩))
    · cases hp
def repD (xs : List DV) (k : Nat) : List DV := (List.replicate k xs).flatten
def pMul : P2 := fun x y S => match x, y with
  | .int i, .int j => (match gMul i j with
    | some k => some (.int k, S)
    | none => none)
  | x, .int k => (match asT S x with
    | some xs => if k.natAbs < 9223372036854775808 ∧ xs.length * k.toNat ≤ sizeLine then some (.lst .own (repD xs k.toNat), S) else none
    | none => none)
  | _, _ => none
theorem RelL.rep {F : Fm} {ds : List DV} {vs : List V} (r : RelL F ds vs) : ∀ k : Nat, RelL F (repD ds k) (List.replicate k vs).flatten
  | 0 => rfl
  | k + 1 => by
    unfold repD
    rw [List.replicate_succ, List.replicate_succ, List.flatten_cons, List.flatten_cons]
    exact r.append (RelL.rep r k)
def CMulA (i j : Int) : Prop := CMul i j ∨ CMulW i j
theorem gMul_ok {i j : Int} (h : (i.natAbs < 18446744073709551616 ∨ j.natAbs < 18446744073709551616) ∨ i.natAbs.log2 + j.natAbs.log2 < 1000000) : CMulA i j := by
  rcases h with (h | h) | h
  · exact .inl (.inl ⟨by omega, by omega⟩)
  · exact .inl (.inr ⟨by omega, by omega⟩)
  · exact .inr h
theorem op_mulA {X : Cx} : OpR X (binaryOp .Mult) (rI CMulA fun i j => .int (i * j)) := opI fun _ _ _ _ _ _ _ hc q => mul_int q (hc.elim CMul.ok CMulW.ok)
abbrev rMulAll : R2 := fun x y H Q => (rI CMulA fun i j => .int (i * j)) x y H Q ∨ rRep x y H Q
theorem op_mulAll {X : Cx} : OpR X (binaryOp .Mult) rMulAll := op_mulA.or op_rep
theorem ok_mul {K : PySem.W.Frag} : Ok2 K pMul rMulAll := fun F S H x y vx vy d S' Q hk R rx ry hp hq => by
  unfold pMul at hp
  split at hp
  · unfold gMul at hp
    split at hp
    · rename_i k hg
      obtain ⟨h1, rfl⟩ := of_ite2 hg
      cases hp
      exact .inl ⟨_, _, rx, ry, gMul_ok h1, hq F H _ (.refl F) R rfl⟩
    · cases hp
  · split at hp
    · rename_i xs h1
      obtain ⟨⟨h2, h4⟩, h5⟩ := of_ite hp
      cases h5
      obtain ⟨a, us, rfl, sa, ra⟩ := asT_sq R rx h1
      have ey : vy = .int _ := ry
      refine .inr ⟨a, _, us, rfl, ey, sa, by omega, by omega, by rw [← ra.length]; exact h4, new_lst R (ra.rep _) hq⟩
    · cases hp
  · cases hp
/-! ### == and != -/
mutual
def toPy : DV → Option PyData
  | .non => some .none
  | .bl b => some (.bool b)
  | .int i => some (.int i)
  | .str s => some (.str s)
  | .tup ds => match toPyL ds with
    | some es => some (.tuple es)
    | none => none
  | .lst _ ds => match toPyL ds with
    | some es => some (.list es)
    | none => none
  | _ => none
def toPyL : List DV → Option (List PyData)
  | [] => some []
  | d :: ds => match toPy d with
    | some e => (match toPyL ds with
      | some es => some (e :: es)
      | none => none)
    | none => none
end
mutual
theorem toPy_dp {F : Fm} {H : Hp} (hg : Same F.G H) (hb : Same F.B H) : ∀ (d : DV) (v : V) (e : PyData), Rel F d v → toPy d = some e → Dp F.K H v e
  | .non, v, e, r, h => by
    cases (show some PyData.none = some e from h)
    rw [show v = .non from r]
    exact .non
  | .bl b, v, e, r, h => by
    cases (show some (PyData.bool b) = some e from h)
    rw [show v = .bl b from r]
    exact .bl b
  | .int b, v, e, r, h => by
    cases (show some (PyData.int b) = some e from h)
    rw [show v = .int b from r]
    exact .int b
  | .str b, v, e, r, h => by
    cases (show some (PyData.str b) = some e from h)
    rw [show v = .str b from r]
    exact .str b
  | .tup ds, v, e, r, h => by
    unfold toPy at h
    split at h
    · rename_i es he
      cases h
      obtain ⟨a, xs, rfl, hs, rl⟩ := r
      exact .tup (SqT.of (hg _ _ hs)) (toPyL_dp hg hb ds xs es rl he)
    · cases h
  | .lst k ds, v, e, r, h => by
    unfold toPy at h
    split at h
    · rename_i es he
      cases h
      cases k with
      | own =>
        obtain ⟨a, xs, rfl, hs, rl⟩ := r
        exact .lst (SqL.of (hg _ _ hs)) (toPyL_dp hg hb ds xs es rl he)
      | bor =>
        obtain ⟨a, xs, rfl, hs, rl⟩ := r
        exact .lst (SqL.of (hs.elim (hb _ _) (hg _ _))) (toPyL_dp hg hb ds xs es rl he)
      | ext =>
        obtain ⟨a, xs, rfl, hs, rl⟩ := r
        exact .lst (sqL_same hg hs) (toPyL_dp hg hb ds xs es rl he)
    · cases h
  | .dik _ _ _, v, e, r, h => by cases (show none = some e from h)
  | .tupx _, v, e, r, h => by cases (show none = some e from h)
  | .dit _ _ _, v, e, r, h => by cases (show none = some e from h)
  | .loc _, v, e, r, h => by cases (show none = some e from h)
theorem toPyL_dp {F : Fm} {H : Hp} (hg : Same F.G H) (hb : Same F.B H) : ∀ (ds : List DV) (vs : List V) (es : List PyData), RelL F ds vs → toPyL ds = some es → DpAll F.K H vs es
  | [], vs, es, r, h => by
    cases (show some ([] : List PyData) = some es from h)
    rw [show vs = [] from r]
    exact .nil
  | d :: ds, vs, es, r, h => by
    obtain ⟨x, xr, rfl, h1, h2⟩ := r
    unfold toPyL at h
    split at h
    · rename_i e he
      split at h
      · rename_i es' hes
        cases h
        exact .cons (toPy_dp hg hb d x e h1 he) (toPyL_dp hg hb ds xr es' h2 hes)
      · cases h
    · cases h
end
def scD : DV → DV → Option Bool
  | .non, .non => some true
  | .non, .int _ => some false
  | .int _, .non => some false
  | .non, .str _ => some false
  | .str _, .non => some false
  | .non, .bl _ => some false
  | .bl _, .non => some false
  | .int i, .int j => some (decide (i = j))
  | .bl i, .bl j => some (decide (i = j))
  | .str i, .str j => some (decide (i = j))
  | .int _, .str _ => some false
  | .str _, .int _ => some false
  | .bl _, .str _ => some false
  | .str _, .bl _ => some false
  | _, _ => none
def eqDeep (S : Sto) (x y : DV) : Option Bool := match cpD true S x, cpD true S y with
  | some x', some y' => (match toPy x', toPy y' with
    | some d, some e => if SeqAt.shaped d = true ∧ SeqAt.shaped e = true then some (PyData.eqv d e) else none
    | _, _ => none)
  | _, _ => none
def eqD (S : Sto) (x y : DV) : Option Bool := match scD x y with
  | some b => some b
  | none => eqDeep S x y
def pEq (neg : Bool) : P2 := fun x y S => match eqD S x y with
  | some b => some (.bl (if neg then !b else b), S)
  | none => none
theorem scD_ok {F : Fm} {x y : DV} {vx vy : V} {b : Bool} (rx : Rel F x vx) (ry : Rel F y vy) (h : scD x y = some b) : scal vx vy = true ∧ decide (vx = vy) = b := by
  have g : ∀ {i j : Int}, decide (V.int i = V.int j) = decide (i = j) := fun {i j} => by
    by_cases q : i = j
    · rw [q, decide_eq_true rfl, decide_eq_true rfl]
    · rw [decide_eq_false q, decide_eq_false fun z => q (V.int.inj z)]
  have g2 : ∀ {i j : Bool}, decide (V.bl i = V.bl j) = decide (i = j) := fun {i j} => by
    by_cases q : i = j
    · rw [q, decide_eq_true rfl, decide_eq_true rfl]
    · rw [decide_eq_false q, decide_eq_false fun z => q (V.bl.inj z)]
  have g3 : ∀ {i j : Str}, decide (V.str i = V.str j) = decide (i = j) := fun {i j} => by
    by_cases q : i = j
    · rw [q, decide_eq_true rfl, decide_eq_true rfl]
    · rw [decide_eq_false q, decide_eq_false fun z => q (V.str.inj z)]
  cases x <;> cases y <;> first
    | (cases h; done)
    | (obtain rfl := (show vx = _ from rx)
       obtain rfl := (show vy = _ from ry)
       cases h
       first
        | exact ⟨rfl, rfl⟩
        | exact ⟨rfl, g⟩
        | exact ⟨rfl, g2⟩
        | exact ⟨rfl, g3⟩)
theorem eqDeep_ok {F : Fm} {S : Sto} {H : Hp} {x y : DV} {vx vy : V} {b : Bool} (R : Rep F S H) (rx : Rel F x vx) (ry : Rel F y vy) (h : eqDeep S x y = some b) : ∃ d e, Dp F.K H vx d ∧ Dp F.K H vy e ∧ SeqAt.shaped d = true ∧ SeqAt.shaped e = true ∧ b = PyData.eqv d e := by
  unfold eqDeep at h
  split at h
  · rename_i x' y' hx hy
    split at h
    · rename_i d e hd he
      obtain ⟨⟨s1, s2⟩, rfl⟩ := of_ite2 h
      have r1 : RelL ⟨F.K, F.G, H, fun _ => none, []⟩ [x'] [vx] := cpL_bor R (ds := [x]) (by unfold cpL mapDL mapDL; rw [show mapD true _ x = some x' from hx]) ⟨vx, [], rfl, rx, rfl⟩
      have r2 : RelL ⟨F.K, F.G, H, fun _ => none, []⟩ [y'] [vy] := cpL_bor R (ds := [y]) (by unfold cpL mapDL mapDL; rw [show mapD true _ y = some y' from hy]) ⟨vy, [], rfl, ry, rfl⟩
      obtain ⟨_, _, e1, r1, _⟩ := r1
      obtain ⟨_, _, e2, r2, _⟩ := r2
      cases e1
      cases e2
      exact ⟨d, e, toPy_dp (F := ⟨F.K, F.G, H, fun _ => none, []⟩) R.g (Same.refl _) x' vx d r1 hd, toPy_dp (F := ⟨F.K, F.G, H, fun _ => none, []⟩) R.g (Same.refl _) y' vy e r2 he, s1, s2, rfl⟩
    · cases h
  · cases h
abbrev rEqAll (K : PySem.W.Frag) : R2 := fun x y H Q => rEq x y H Q ∨ rEqD K x y H Q
abbrev rNeAll (K : PySem.W.Frag) : R2 := fun x y H Q => rNe x y H Q ∨ rNeD K x y H Q
theorem ok_eq {K : PySem.W.Frag} : Ok2 K (pEq false) (rEqAll K) := fun F S H x y vx vy d S' Q hk R rx ry hp hq => by
  unfold pEq at hp
  split at hp
  · rename_i b he
    cases hp
    unfold eqD at he
    split at he
    · rename_i b' hs
      cases he
      obtain ⟨h1, h2⟩ := scD_ok rx ry hs
      exact .inl ⟨h1, by rw [h2]; exact hq F H _ (.refl F) R rfl⟩
    · obtain ⟨d, e, h1, h2, h3, h4, rfl⟩ := eqDeep_ok R rx ry he
      rw [hk] at h1 h2
      exact .inr ⟨d, e, h1, h2, h3, h4, hq F H _ (.refl F) R rfl⟩
  · cases hp
theorem ok_ne {K : PySem.W.Frag} : Ok2 K (pEq true) (rNeAll K) := fun F S H x y vx vy d S' Q hk R rx ry hp hq => by
  unfold pEq at hp
  split at hp
  · rename_i b he
    cases hp
    unfold eqD at he
    split at he
    · rename_i b' hs
      cases he
      obtain ⟨h1, h2⟩ := scD_ok rx ry hs
      exact .inl ⟨h1, by rw [h2]; exact hq F H _ (.refl F) R rfl⟩
    · obtain ⟨d, e, h1, h2, h3, h4, rfl⟩ := eqDeep_ok R rx ry he
      rw [hk] at h1 h2
      exact .inr ⟨d, e, h1, h2, h3, h4, hq F H _ (.refl F) R rfl⟩
  · cases hp

/-! ### other comparisons -/
def pCmp (g : Int → Int → Bool) : P2 := fun x y S => match x, y with
  | .int i, .int j => some (.bl (g i j), S)
  | _, _ => none
abbrev pLt : P2 := pCmp fun i j => decide (i < j)
abbrev pLe : P2 := pCmp fun i j => decide (i ≤ j)
abbrev pGt : P2 := pCmp fun i j => decide (j < i)
abbrev pGe : P2 := pCmp fun i j => decide (j ≤ i)
theorem ok_cmp {K : PySem.W.Frag} {g : Int → Int → Bool} : Ok2 K (pCmp g) (rI0 fun i j => .bl (g i j)) := fun F S H x y vx vy d S' Q hk R rx ry hp hq => by
  unfold pCmp at hp
  split at hp
  · cases hp
    exact ⟨_, _, rx, ry, hq F H _ (.refl F) R rfl⟩
  · cases hp
def isNon : DV → Bool
  | .non => true
  | _ => false
def pIs (neg : Bool) : P2 := fun x y S => match y with
  | .non => some (.bl (if neg then !isNon x else isNon x), S)
  | _ => none
theorem isNon_ok {F : Fm} {x : DV} {v : V} (r : Rel F x v) : decide (v = .non) = isNon x := by
  cases x with
  | non =>
    obtain rfl := (show v = _ from r)
    exact decide_eq_true rfl
  | bl b =>
    obtain rfl := (show v = _ from r)
    exact decide_eq_false fun q => nomatch q
  | int b =>
    obtain rfl := (show v = _ from r)
    exact decide_eq_false fun q => nomatch q
  | str b =>
    obtain rfl := (show v = _ from r)
    exact decide_eq_false fun q => nomatch q
  | tup ds =>
    obtain ⟨a, xs, rfl, _⟩ := r
    exact decide_eq_false fun q => nomatch q
  | lst k ds =>
    cases k <;>
    · obtain ⟨a, xs, rfl, _⟩ := r
      exact decide_eq_false fun q => nomatch q
  | tupx ds =>
    obtain ⟨a, xs, rfl, _⟩ := r
    exact decide_eq_false fun q => nomatch q
  | dik k ks ds =>
    obtain ⟨a, xs, rfl, _⟩ := r
    exact decide_eq_false fun q => nomatch q
  | dit k ks ds =>
    obtain ⟨a, xs, rfl, _⟩ := r
    exact decide_eq_false fun q => nomatch q
  | loc n =>
    obtain ⟨a, _, rfl⟩ := r
    exact decide_eq_false fun q => nomatch q
theorem ok_is {K : PySem.W.Frag} : Ok2 K (pIs false) (fun x y H Q => y = .non ∧ Q (.bl (decide (x = .non))) H) := fun F S H x y vx vy d S' Q hk R rx ry hp hq => by
  unfold pIs at hp
  split at hp
  · cases hp
    exact ⟨ry, by rw [isNon_ok rx]; exact hq F H _ (.refl F) R rfl⟩
  · cases hp
/-- flat values: as in «in» over a list or tuple -/
def flD : DV → Bool
  | .non => true
  | .bl _ => true
  | .int _ => true
  | .str _ => true
  | _ => false
def eqF : DV → DV → Bool
  | .non, .non => true
  | .bl a, .bl b => a == b
  | .int a, .int b => a == b
  | .str a, .str b => a == b
  | .bl a, .int b => (if a then 1 else 0) == b
  | .int a, .bl b => a == (if b then 1 else 0)
  | _, _ => false
end Dn

namespace Dn
open PySem PySem.Spec PyProof.Rows L2

theorem PE.or {X : Cx} {e : Expr} {t u : TE} (h : PE X e t) (k : PE X e u) : PE X e (fun σ H Q => t σ H Q ∨ u σ H Q) := ⟨fun pins s σ H Q I w => w.elim (h.run pins s σ H Q I) (k.run pins s σ H Q I)⟩
theorem PT.or {X : Cx} {e : Expr} {t u : TT} (h : PT X e t) (k : PT X e u) : PT X e (fun σ H Q => t σ H Q ∨ u σ H Q) := ⟨fun pins s σ H Q I w => w.elim (h.run pins s σ H Q I) (k.run pins s σ H Q I)⟩
theorem PI.or {X : Cx} {tg e : Expr} {t u : TI} (h : PI X tg e t) (k : PI X tg e u) : PI X tg e (fun σ H Q => t σ H Q ∨ u σ H Q) := ⟨fun pins s σ H Q I w => w.elim (h.run pins s σ H Q I) (k.run pins s σ H Q I)⟩

/-! ### flat data -/
theorem flD_ok {F : Fm} {x : DV} {v : V} (r : Rel F x v) (h : flD x = true) : flatV v = true ∧ ∀ {y : DV} {u : V}, Rel F y u → flD y = true → eqV v u = eqF x y := by
  cases x <;> first
    | (cases h; done)
    | (obtain rfl := (show v = _ from r)
       refine ⟨rfl, fun {y u} ry hy => ?_⟩
       cases y <;> first
        | (cases hy; done)
        | (obtain rfl := (show u = _ from ry)
           rfl))
def inD (x : DV) (ds : List DV) : Bool := ds.any fun y => eqF y x
theorem inD_ok {F : Fm} {x : DV} {v : V} (r : Rel F x v) (h : flD x = true) : ∀ {ds : List DV} {vs : List V}, RelL F ds vs → ds.all flD = true → vs.all flatV = true ∧ inV v vs = inD x ds
  | [], vs, rl, _ => by
    obtain rfl := (show vs = [] from rl)
    exact ⟨rfl, rfl⟩
  | d :: ds, vs, rl, ha => by
    obtain ⟨u, ur, rfl, h1, h2⟩ := rl
    rw [List.all_cons] at ha
    obtain ⟨k1, k2⟩ := Bool.and_eq_true_iff.mp ha
    obtain ⟨e1, e2⟩ := inD_ok r h h2 k2
    obtain ⟨f1, f2⟩ := flD_ok h1 k1
    refine ⟨by rw [List.all_cons, f1, e1] <;> rfl, ?_⟩
    have e2' : (ur.any fun y => eqV y v) = ds.any fun y => eqF y x := e2
    show ((u :: ur).any fun y => eqV y v) = (d :: ds).any fun y => eqF y x
    rw [List.any_cons, List.any_cons, f2 r h, e2']

/-! ### dicts -/
def asK (S : Sto) : DV → Option (List Key × List DV)
  | .dik _ ks ds => some (ks, ds)
  | .loc n => match S[n]? with
    | some (.dik ks ds) => some (ks, ds)
    | some (.frz (.dik _ ks ds)) => some (ks, ds)
    | some (.lok ks ds) => some (ks, ds)
    | _ => none
  | _ => none
/-- .. but not of one that is being walked -/
def asK0 (S : Sto) : DV → Option (List Key × List DV)
  | .dik _ ks ds => some (ks, ds)
  | .loc n => match S[n]? with
    | some (.dik ks ds) => some (ks, ds)
    | some (.frz (.dik _ ks ds)) => some (ks, ds)
    | _ => none
  | _ => none
def asKT (S : Sto) : DV → Option (List (List Key) × List DV)
  | .dit _ ks ds => some (ks, ds)
  | .loc n => match S[n]? with
    | some (.dit ks ds) => some (ks, ds)
    | some (.frz (.dit _ ks ds)) => some (ks, ds)
    | some (.lokt ks ds) => some (ks, ds)
    | _ => none
  | _ => none
def asKT0 (S : Sto) : DV → Option (List (List Key) × List DV)
  | .dit _ ks ds => some (ks, ds)
  | .loc n => match S[n]? with
    | some (.dit ks ds) => some (ks, ds)
    | some (.frz (.dit _ ks ds)) => some (ks, ds)
    | _ => none
  | _ => none
def keyD : DV → Option Key
  | .int i => some (.inl i)
  | .str s => some (.inr s)
  | _ => none
def keysD : List DV → Option (List Key)
  | [] => some []
  | d :: ds => match keyD d with
    | some k => (match keysD ds with
      | some ks => some (k :: ks)
      | none => none)
    | none => none
def keyT : DV → Option (List Key)
  | .tup ds => keysD ds
  | _ => none
def lkD {κ : Type} [DecidableEq κ] : List κ → List DV → κ → Option DV
  | k :: ks, d :: ds, j => if k = j then some d else lkD ks ds j
  | _, _, _ => none
def rpG {κ α : Type} [DecidableEq κ] (j : κ) (x : α) : List κ → List α → List α
  | k :: ks, d :: ds => (if k = j then x else d) :: rpG j x ks ds
  | _, _ => []
def hasK {κ : Type} [DecidableEq κ] (ks : List κ) (j : κ) : Bool := ks.any fun k => decide (k = j)
def putKs {κ : Type} [DecidableEq κ] (ks : List κ) (j : κ) : List κ := if hasK ks j = true then ks else ks ++ [j]
def putVs {κ : Type} [DecidableEq κ] (ks : List κ) (ds : List DV) (j : κ) (x : DV) : List DV := if hasK ks j = true then rpG j x ks ds else ds ++ [x]
section
variable {F : Fm} {S : Sto} {H : Hp} {d : DV} {v : V}
theorem asK_ok (R : Rep F S H) (r : Rel F d v) {ks : List Key} {ds : List DV} (h : asK S d = some (ks, ds)) : ∃ a xs, v = .ref a ∧ ks.length = ds.length ∧ Rd H a (.dK (ks.zip xs)) ∧ RelL F ds xs := by
  cases d with
  | dik k es fs =>
    cases (show some (es, fs) = some (ks, ds) from h)
    obtain ⟨a, xs, rfl, hz, h, rl⟩ := r
    exact ⟨a, xs, rfl, hz, .inl (h.elim (R.g _ _) fun h => R.b _ _ h.2), rl⟩
  | loc n =>
    obtain ⟨a, ha, rfl⟩ := r
    unfold asK at h
    simp only at h
    split at h
    · rename_i es fs hc
      cases h
      obtain ⟨⟨xs, hz, e, rl⟩, _⟩ := R.cell n _ a hc ha
      exact ⟨a, xs, rfl, hz, .inl e, rl⟩
    · rename_i k es fs hc
      cases h
      obtain ⟨rl, _⟩ := R.cell n _ a hc ha
      obtain ⟨b, xs, e1, hz, h, rl⟩ := (show Rel F (.dik k ks ds) (.ref a) from rl)
      cases e1
      exact ⟨a, xs, rfl, hz, .inl (h.elim (R.g _ _) fun h => R.b _ _ h.2), rl⟩
    · rename_i es fs hc
      cases h
      obtain ⟨⟨o, xs, hz, e, rl⟩, _⟩ := R.cell n _ a hc ha
      exact ⟨a, xs, rfl, hz, .inr ⟨o, R.p _ _ e⟩, rl⟩
    · cases h
  | _ => cases h
theorem asK0_ok (R : Rep F S H) (r : Rel F d v) {ks : List Key} {ds : List DV} (h : asK0 S d = some (ks, ds)) : ∃ a xs, v = .ref a ∧ ks.length = ds.length ∧ H a = some (.dK (ks.zip xs)) ∧ RelL F ds xs := by
  cases d with
  | dik k es fs =>
    cases (show some (es, fs) = some (ks, ds) from h)
    obtain ⟨a, xs, rfl, hz, h, rl⟩ := r
    exact ⟨a, xs, rfl, hz, h.elim (R.g _ _) fun h => R.b _ _ h.2, rl⟩
  | loc n =>
    obtain ⟨a, ha, rfl⟩ := r
    unfold asK0 at h
    simp only at h
    split at h
    · rename_i es fs hc
      cases h
      obtain ⟨⟨xs, hz, e, rl⟩, _⟩ := R.cell n _ a hc ha
      exact ⟨a, xs, rfl, hz, e, rl⟩
    · rename_i k es fs hc
      cases h
      obtain ⟨rl, _⟩ := R.cell n _ a hc ha
      obtain ⟨b, xs, e1, hz, h, rl⟩ := (show Rel F (.dik k ks ds) (.ref a) from rl)
      cases e1
      exact ⟨a, xs, rfl, hz, h.elim (R.g _ _) fun h => R.b _ _ h.2, rl⟩
    · cases h
  | _ => cases h
theorem asKT_ok (R : Rep F S H) (r : Rel F d v) {ks : List (List Key)} {ds : List DV} (h : asKT S d = some (ks, ds)) : ∃ a xs, v = .ref a ∧ ks.length = ds.length ∧ Rd H a (.dT (ks.zip xs)) ∧ RelL F ds xs := by
  cases d with
  | dit k es fs =>
    cases (show some (es, fs) = some (ks, ds) from h)
    obtain ⟨a, xs, rfl, hz, h, rl⟩ := r
    exact ⟨a, xs, rfl, hz, .inl (h.elim (R.g _ _) fun h => R.b _ _ h.2), rl⟩
  | loc n =>
    obtain ⟨a, ha, rfl⟩ := r
    unfold asKT at h
    simp only at h
    split at h
    · rename_i es fs hc
      cases h
      obtain ⟨⟨xs, hz, e, rl⟩, _⟩ := R.cell n _ a hc ha
      exact ⟨a, xs, rfl, hz, .inl e, rl⟩
    · rename_i k es fs hc
      cases h
      obtain ⟨rl, _⟩ := R.cell n _ a hc ha
      obtain ⟨b, xs, e1, hz, h, rl⟩ := (show Rel F (.dit k ks ds) (.ref a) from rl)
      cases e1
      exact ⟨a, xs, rfl, hz, .inl (h.elim (R.g _ _) fun h => R.b _ _ h.2), rl⟩
    · rename_i es fs hc
      cases h
      obtain ⟨⟨o, xs, hz, e, rl⟩, _⟩ := R.cell n _ a hc ha
      exact ⟨a, xs, rfl, hz, .inr ⟨o, R.p _ _ e⟩, rl⟩
    · cases h
  | _ => cases h
theorem asKT0_ok (R : Rep F S H) (r : Rel F d v) {ks : List (List Key)} {ds : List DV} (h : asKT0 S d = some (ks, ds)) : ∃ a xs, v = .ref a ∧ ks.length = ds.length ∧ H a = some (.dT (ks.zip xs)) ∧ RelL F ds xs := by
  cases d with
  | dit k es fs =>
    cases (show some (es, fs) = some (ks, ds) from h)
    obtain ⟨a, xs, rfl, hz, h, rl⟩ := r
    exact ⟨a, xs, rfl, hz, h.elim (R.g _ _) fun h => R.b _ _ h.2, rl⟩
  | loc n =>
    obtain ⟨a, ha, rfl⟩ := r
    unfold asKT0 at h
    simp only at h
    split at h
    · rename_i es fs hc
      cases h
      obtain ⟨⟨xs, hz, e, rl⟩, _⟩ := R.cell n _ a hc ha
      exact ⟨a, xs, rfl, hz, e, rl⟩
    · rename_i k es fs hc
      cases h
      obtain ⟨rl, _⟩ := R.cell n _ a hc ha
      obtain ⟨b, xs, e1, hz, h, rl⟩ := (show Rel F (.dit k ks ds) (.ref a) from rl)
      cases e1
      exact ⟨a, xs, rfl, hz, h.elim (R.g _ _) fun h => R.b _ _ h.2, rl⟩
    · cases h
  | _ => cases h
theorem keyD_ok {k : Key} (r : Rel F d v) (h : keyD d = some k) : v = kV k := by
  cases d <;> first
    | (cases h; done)
    | (cases h
       exact r)
theorem keysD_ok : ∀ {ds : List DV} {vs : List V} {ks : List Key}, RelL F ds vs → keysD ds = some ks → vs = ks.map kV
  | [], vs, ks, r, h => by
    cases (show some ([] : List Key) = some ks from h)
    exact r
  | d :: ds, vs, ks, r, h => by
    obtain ⟨x, xr, rfl, h1, h2⟩ := r
    unfold keysD at h
    split at h
    · rename_i k hk
      split at h
      · rename_i ks' hks
        cases h
        rw [keyD_ok h1 hk, keysD_ok h2 hks] <;> rfl
      · cases h
    · cases h
theorem lk_ok {κ : Type} [DecidableEq κ] (j : κ) : ∀ {ks : List κ} {ds : List DV} {xs : List V}, RelL F ds xs → (∀ {e : DV}, lkD ks ds j = some e → ∃ x, valV (ks.zip xs) j = some x ∧ Rel F e x) ∧ (ks.length = ds.length → lkD ks ds j = none → valV (ks.zip xs) j = none)
  | [], ds, xs, r => by
    refine ⟨fun {e} h => ?_, fun _ _ => ?_⟩
    · unfold lkD at h
      cases h
    · rw [List.zip_nil_left] <;> rfl
  | k :: ks, [], xs, r => by
    refine ⟨fun {e} h => ?_, fun h => ?_⟩
    · unfold lkD at h
      cases h
    · cases h
  | k :: ks, d :: ds, xs, r => by
    obtain ⟨x, xr, rfl, h1, h2⟩ := r
    obtain ⟨i1, i2⟩ := lk_ok j (ks := ks) h2
    rw [List.zip_cons_cons]
    by_cases q : k = j
    · refine ⟨fun {e} h => ?_, fun _ h => ?_⟩
      · unfold lkD at h
        rw [if_pos q] at h
        cases h
        exact ⟨x, valV_pos q, h1⟩
      · unfold lkD at h
        rw [if_pos q] at h
        cases h
    · refine ⟨fun {e} h => ?_, fun hl h => ?_⟩
      · unfold lkD at h
        rw [if_neg q] at h
        obtain ⟨y, y1, y2⟩ := i1 h
        exact ⟨y, by rw [valV_neg q]; exact y1, y2⟩
      · unfold lkD at h
        rw [if_neg q] at h
        rw [valV_neg q]
        exact i2 (Nat.succ.inj hl) h
end
/-- what a dict has for a key: none: this is no dict or no key -/
def getD (S : Sto) (x k : DV) : Option (Option DV) := match asK S x, keyD k with
  | some (ks, ds), some j => some (lkD ks ds j)
  | _, _ => (match asKT S x, keyT k with
    | some (ks, ds), some j => some (lkD ks ds j)
    | _, _ => none)
theorem getD_ok {F : Fm} {S : Sto} {H : Hp} {x k : DV} {vx vk : V} {o : Option DV} (R : Rep F S H) (rx : Rel F x vx) (rk : Rel F k vk) (h : getD S x k = some o) : ∃ a r, vx = .ref a ∧ DGet H a vk r ∧ (∀ {d}, o = some d → ∃ v, r = some v ∧ Rel F d v) ∧ (o = none → r = none) := by
  unfold getD at h
  split at h
  · rename_i ks ds j h1 h2
    cases h
    obtain ⟨a, xs, rfl, hz, e, rl⟩ := asK_ok R rx h1
    obtain rfl := keyD_ok rk h2
    obtain ⟨i1, i2⟩ := lk_ok (F := F) j (ks := ks) rl
    exact ⟨a, _, rfl, .inl ⟨_, _, e, rfl, rfl⟩, fun {d} q => i1 q, fun q => i2 hz q⟩
  · split at h
    · rename_i ks ds j h1 h2
      cases h
      obtain ⟨a, xs, rfl, hz, e, rl⟩ := asKT_ok R rx h1
      unfold keyT at h2
      split at h2
      · rename_i es
        obtain ⟨b, us, rfl, hH, rb⟩ := tup_at R rk
        obtain rfl := keysD_ok rb h2
        obtain ⟨i1, i2⟩ := lk_ok (F := F) j (ks := ks) rl
        exact ⟨a, _, rfl, .inr ⟨_, _, b, e, rfl, hH, rfl⟩, fun {d} q => i1 q, fun q => i2 hz q⟩
      · cases h2
    · cases h
end Dn

namespace Dn
open PySem PySem.Spec PyProof.Rows L2

/-! ### in, not in -/
def pIn (neg : Bool) : P2 := fun x y S => match y with
  | .str b => (match x with
    | .str a => (match a.cps.toList with
      | [c] => some (.bl (if neg then !decide (c ∈ b.cps.toList) else decide (c ∈ b.cps.toList)), S)
      | _ => none)
    | _ => none)
  | .tup ds => if flD x = true ∧ ds.all flD = true then some (.bl (if neg then !inD x ds else inD x ds), S) else none
  | .tupx ds => if flD x = true ∧ ds.all flD = true then some (.bl (if neg then !inD x ds else inD x ds), S) else none
  | y => (match asL S y with
    | some ds => if flD x = true ∧ ds.all flD = true then some (.bl (if neg then !inD x ds else inD x ds), S) else
      (match cpD true S x, cpL true S ds with
      | some x', some ds' => (match toPy x', toPyL ds' with
        | some d, some es => if SeqAt.shaped d = true ∧ SeqAt.shaped (.list es) = true then some (.bl (if neg then !es.any (fun z => PyData.eqv z d) else es.any (fun z => PyData.eqv z d)), S) else none
        | _, _ => none)
      | _, _ => none)
    | none => (match getD S y x with
      | some o => some (.bl (if neg then !o.isSome else o.isSome), S)
      | none => none))
abbrev rInSign (neg : Bool) : R2 := fun x y H Q => ∃ (c : Nat) (z : Str), x = .str ⟨#[c]⟩ ∧ y = .str z ∧ Q (.bl (if neg then !decide (c ∈ z.cps.toList) else decide (c ∈ z.cps.toList))) H
abbrev rInSeq3 (K : PySem.W.Frag) (neg : Bool) : R2 := fun x y H Q => rInSign neg x y H Q ∨ (fun x y H Q => rIn K neg x y H Q ∨ (fun x y H Q => ∃ d ds, Dp K H x d ∧ Dp K H y (.list ds) ∧ SeqAt.shaped d = true ∧ SeqAt.shaped (.list ds) = true ∧ Q (.bl (if neg then !ds.any (fun z => PyData.eqv z d) else ds.any fun z => PyData.eqv z d)) H) x y H Q) x y H Q
abbrev rDIn (neg : Bool) : R2 := fun y x H Q => ∃ a o, x = .ref a ∧ DGet H a y o ∧ Q (.bl (if neg then !o.isSome else o.isSome)) H
theorem str_one {a : Str} {c : Nat} (h : a.cps.toList = [c]) : a = ⟨#[c]⟩ := by
  apply TL.ext_tl
  exact h
theorem ok_in {K : PySem.W.Frag} {neg : Bool} : Ok2 K (pIn neg) (fun x y H Q => rInSeq3 K neg x y H Q ∨ rDIn neg x y H Q) := fun F S H x y vx vy d S' Q hk R rx ry hp hq => by
  unfold pIn at hp
  split at hp
  · rename_i b
    split at hp
    · rename_i a
      split at hp
      · rename_i c hc
        cases hp
        refine .inl (.inl ⟨c, b, ?_, ry, hq F H _ (.refl F) R rfl⟩)
        rw [show vx = .str a from rx, str_one hc]
      · cases hp
    · cases hp
  · rename_i ds
    obtain ⟨⟨h1, h2⟩, h3⟩ := of_ite hp
    cases h3
    obtain ⟨a, xs, rfl, hs, rl⟩ := tup_sq R ry
    rw [hk] at hs
    obtain ⟨e1, e2⟩ := inD_ok rx h1 rl h2
    exact .inl (.inr (.inl ⟨a, xs, rfl, .inr hs, (flD_ok rx h1).1, e1, by rw [e2]; exact hq F H _ (.refl F) R rfl⟩))
  · rename_i ds
    obtain ⟨⟨h1, h2⟩, h3⟩ := of_ite hp
    cases h3
    obtain ⟨a, xs, rfl, hs, rl⟩ := tupx_sq R ry
    rw [hk] at hs
    obtain ⟨e1, e2⟩ := inD_ok rx h1 rl h2
    exact .inl (.inr (.inl ⟨a, xs, rfl, .inr hs, (flD_ok rx h1).1, e1, by rw [e2]; exact hq F H _ (.refl F) R rfl⟩))
  · split at hp
    · rename_i ds hL
      obtain ⟨a, xs, rfl, hs, rl⟩ := asL_sq R ry hL
      split at hp
      · rename_i hfl
        cases hp
        rw [hk] at hs
        obtain ⟨e1, e2⟩ := inD_ok rx hfl.1 rl hfl.2
        exact .inl (.inr (.inl ⟨a, xs, rfl, .inl hs, (flD_ok rx hfl.1).1, e1, by rw [e2]; exact hq F H _ (.refl F) R rfl⟩))
      · split at hp
        · rename_i x' ds' hx hds
          split at hp
          · rename_i d0 es hd0 hes
            obtain ⟨⟨s1, s2⟩, h3⟩ := of_ite hp
            cases h3
            have r1 : RelL ⟨F.K, F.G, H, fun _ => none, []⟩ [x'] [vx] := cpL_bor R (ds := [x]) (by unfold cpL mapDL mapDL; rw [show mapD true _ x = some x' from hx]) ⟨vx, [], rfl, rx, rfl⟩
            obtain ⟨_, _, e1, r1, _⟩ := r1
            cases e1
            have r2 := cpL_bor R hds rl
            have d1 := toPy_dp (F := ⟨F.K, F.G, H, fun _ => none, []⟩) R.g (Same.refl _) x' vx d0 r1 hd0
            have d2 := toPyL_dp (F := ⟨F.K, F.G, H, fun _ => none, []⟩) R.g (Same.refl _) ds' xs es r2 hes
            have k1 : Dp K H vx d0 := by rw [← hk]; exact d1
            have k2 : DpAll K H xs es := by rw [← hk]; exact d2
            rw [hk] at hs
            exact .inl (.inr (.inr ⟨d0, es, k1, .lst hs k2, s1, s2, hq F H _ (.refl F) R rfl⟩))
          · cases hp
        · cases hp
    · split at hp
      · rename_i o ho
        cases hp
        obtain ⟨a, r, rfl, hg, i1, i2⟩ := getD_ok R ry rx ho
        refine .inr ⟨a, r, rfl, hg, ?_⟩
        have e : r.isSome = o.isSome := by
          cases o with
          | none => rw [i2 rfl] <;> rfl
          | some d =>
            obtain ⟨v, e1, _⟩ := i1 rfl
            rw [e1] <;> rfl
        rw [e]
        exact hq F H _ (.refl F) R rfl
      · cases hp
section
variable {X : Cx} {a b : Expr} {f g : DE} {pos : Pos}
theorem op_in3 (hu : X.A.units + 64 + 1 < cLine) : OpR X (compareOp .In) (rInSeq3 X.K false) := op_in_sign.or (op_in_seq.or (op_inD (by omega)))
theorem op_notin3 (hu : X.A.units + 64 + 1 < cLine) : OpR X (compareOp .NotIn) (rInSeq3 X.K true) := op_notIn_sign.or (op_notIn_seq.or (op_notInD (by omega)))
theorem op_dIn (hu : X.A.units + 1 < cLine) : OpR X (compareOp .In) (rDIn false) := fun pins s σ H x y v u Q I rx ry h => by
  obtain ⟨d, o, rfl, g, q⟩ := h
  obtain rfl : u = Value.ref d := ry
  exact d_in hu I g rx fun s' I' => ⟨.bl o.isSome, H, I', rfl, q⟩
theorem op_dNotIn (hu : X.A.units + 1 < cLine) : OpR X (compareOp .NotIn) (rDIn true) := fun pins s σ H x y v u Q I rx ry h => by
  obtain ⟨d, o, rfl, g, q⟩ := h
  obtain rfl : u = Value.ref d := ry
  exact d_notIn hu I g rx fun s' I' => ⟨.bl (!o.isSome), H, I', rfl, q⟩
theorem hu65 {k : Nat} {A : Around} (hr : Room k A) : A.units + 64 + 1 < cLine := by have := hr.un; omega
theorem hu1 {k : Nat} {A : Around} (hr : Room k A) : A.units + 1 < cLine := by have := hr.un; omega
theorem hu64 {k : Nat} {A : Around} (hr : Room k A) : A.units + 64 < cLine := by have := hr.un; omega
theorem ed_in {k : Nat} (hr : Room k X.A) (ha : ED X a f) (hb : ED X b g) (hm : behindInMarks .In b = false) : ED X (.Compare a [.In] [b] pos) (dBin (pIn false) f g) := ed_cmp ((op_in3 (hu65 hr)).or (op_dIn (hu1 hr))) ok_in ha hb hm
theorem td_in {k : Nat} (hr : Room k X.A) (ha : ED X a f) (hb : ED X b g) (hm : behindInMarks .In b = false) : TD X (.Compare a [.In] [b] pos) (dBin (pIn false) f g) := td_cmp ((op_in3 (hu65 hr)).or (op_dIn (hu1 hr))) ok_in ha hb hm
theorem td_notin {k : Nat} (hr : Room k X.A) (ha : ED X a f) (hb : ED X b g) (hm : behindInMarks .NotIn b = false) : TD X (.Compare a [.NotIn] [b] pos) (dBin (pIn true) f g) := td_cmp ((op_notin3 (hu65 hr)).or (op_dNotIn (hu1 hr))) ok_in ha hb hm
/-! comparisons in short -/
theorem ed_eq {k : Nat} (hr : Room k X.A) (ha : ED X a f) (hb : ED X b g) : ED X (.Compare a [.Eq] [b] pos) (dBin (pEq false) f g) := ed_cmp (op_eq.or (op_eqD (hu64 hr))) ok_eq ha hb (nomark _)
theorem td_eq {k : Nat} (hr : Room k X.A) (ha : ED X a f) (hb : ED X b g) : TD X (.Compare a [.Eq] [b] pos) (dBin (pEq false) f g) := td_cmp (op_eq.or (op_eqD (hu64 hr))) ok_eq ha hb (nomark _)
theorem td_ne {k : Nat} (hr : Room k X.A) (ha : ED X a f) (hb : ED X b g) : TD X (.Compare a [.NotEq] [b] pos) (dBin (pEq true) f g) := td_cmp (op_ne.or (op_neD (hu64 hr))) ok_ne ha hb (nomark _)
theorem td_lt (ha : ED X a f) (hb : ED X b g) : TD X (.Compare a [.Lt] [b] pos) (dBin pLt f g) := td_cmp op_lt ok_cmp ha hb (nomark _)
theorem td_gt (ha : ED X a f) (hb : ED X b g) : TD X (.Compare a [.Gt] [b] pos) (dBin pGt f g) := td_cmp op_gt ok_cmp ha hb (nomark _)
theorem td_ge (ha : ED X a f) (hb : ED X b g) : TD X (.Compare a [.GtE] [b] pos) (dBin pGe f g) := td_cmp op_ge ok_cmp ha hb (nomark _)
theorem td_is (ha : ED X a f) (hb : ED X b g) : TD X (.Compare a [.Is] [b] pos) (dBin (pIs false) f g) := td_cmp op_isN ok_is ha hb (nomark _)
theorem ed_add (ha : ED X a f) (hb : ED X b g) : ED X (.BinOp a .Add b pos) (dBin pAdd f g) := ed_bin op_addAll ok_add ha hb
theorem ed_mul (ha : ED X a f) (hb : ED X b g) : ED X (.BinOp a .Mult b pos) (dBin pMul f g) := ed_bin op_mulAll ok_mul ha hb
end

/-! ### subscripts -/
def atD (ds : List DV) (i : Int) : Option DV := (ixN ds.length i).bind fun j => ds[j]?
theorem atD_ok {F : Fm} {ds : List DV} {xs : List V} {i : Int} {d : DV} (r : RelL F ds xs) (h : atD ds i = some d) : ∃ v, atI xs i = some v ∧ Rel F d v := by
  unfold atD at h
  unfold atI
  rw [← r.length]
  cases e : ixN ds.length i with
  | none =>
    rw [e] at h
    cases h
  | some j =>
    rw [e] at h
    exact r.get (i := j) h
def pIx : P2 := fun x y S => match y with
  | .int i => (match x with
    | .tup ds => (match atD ds i with
      | some d => some (d, S)
      | none => none)
    | .tupx ds => (match atD ds i with
      | some d => some (d, S)
      | none => none)
    | .str s => if s.length ≤ sizeLine then (match atI s.cps.toList i with
      | some c => some (.str ⟨#[c]⟩, S)
      | none => none) else none
    | x => (match asL S x with
      | some ds => (match atD ds i with
        | some d => some (d, S)
        | none => none)
      | none => (match getD S x y with
        | some (some d) => some (d, S)
        | _ => none)))
  | y => (match getD S x y with
    | some (some d) => some (d, S)
    | _ => none)
abbrev rDIx : R2 := fun x y H Q => ∃ a v, x = .ref a ∧ DGet H a y (some v) ∧ Q v H
theorem ix_dict {X : Cx} (hu : X.A.units + 1 < cLine) : IxR X rDIx := by
  intro value slice pins s σ H x y v u Q I rx ry h hs
  obtain ⟨a, z, rfl, g, q⟩ := h
  obtain rfl : v = Value.ref a := rx
  have hT := dict_typeIs I g
  have hget : wpAny (model X.prog X.w) X.A (getItem (.ref a) u) (EP X pins σ Q) X.xe s := d_getItem hu I g ry fun w' s3 I3 rw' => ⟨z, H, I3, rw', q⟩
  unfold subscriptTail
  refine wpAny_bind ?_
  rw [getitemInPython_of_ne hT.not_modules]
  refine wpAny_bind (wpAny_specialOf hT PySem.F.slot_dict_getitem.lookup ?_)
  have fin : wpAny (model X.prog X.w) X.A (subscripted slice false (.ref a) u) (fun r s₃ => wpAny (model X.prog X.w) X.A (letTemporaryGo value (.ref a) r >>= fun _ => pure r) (EP X pins σ Q) X.xe s₃) X.xe s := by
    rw [hs]
    exact wpAny_operating (wpAny_mono hget (fun r s₃ h₃ => wpAny_bind (wpAny_letTemporaryGo (wpAny_pure h₃))) fun _ _ x => x)
  first
    | exact wpAny_pure (wpAny_bind fin)
    | exact wpAny_bind (wpAny_pure (wpAny_bind fin))
    | exact wpAny_bind fin
theorem ok_ix {K : PySem.W.Frag} : Ok2 K pIx (fun x y H Q => rIx K x y H Q ∨ rDIx x y H Q) := fun F S H x y vx vy d S' Q hk R rx ry hp hq => by
  have dict : ∀ {o : Option DV}, getD S x y = some o → (∀ e, o = some e → e = d) → S' = S → o.isSome = true → rDIx vx vy H Q := fun {o} h1 h2 h3 h4 => by
    subst h3
    obtain ⟨a, r, rfl, hg, i1, _⟩ := getD_ok R rx ry h1
    cases o with
    | none => cases h4
    | some e =>
      obtain ⟨v, rfl, e2⟩ := i1 rfl
      have := h2 e rfl
      subst this
      exact ⟨a, v, rfl, hg, hq F H _ (.refl F) R e2⟩
  unfold pIx at hp
  split at hp
  · rename_i i
    split at hp
    · split at hp
      · rename_i e he
        cases hp
        obtain ⟨a, xs, rfl, hs, rl⟩ := tup_sq R rx
        rw [hk] at hs
        obtain ⟨v, e1, e2⟩ := atD_ok rl he
        exact .inl (.inr (.inl ⟨a, xs, i, v, rfl, ry, hs, e1, hq F H _ (.refl F) R e2⟩))
      · cases hp
    · split at hp
      · rename_i e he
        cases hp
        obtain ⟨a, xs, rfl, hs, rl⟩ := tupx_sq R rx
        rw [hk] at hs
        obtain ⟨v, e1, e2⟩ := atD_ok rl he
        exact .inl (.inr (.inl ⟨a, xs, i, v, rfl, ry, hs, e1, hq F H _ (.refl F) R e2⟩))
      · cases hp
    · obtain ⟨h1, hp⟩ := of_ite hp
      split at hp
      · rename_i c hc
        cases hp
        exact .inl (.inr (.inr ⟨_, i, c, rx, ry, h1, hc, hq F H _ (.refl F) R rfl⟩))
      · cases hp
    · split at hp
      · rename_i ds hL
        split at hp
        · rename_i e he
          cases hp
          obtain ⟨a, xs, rfl, hs, rl⟩ := asL_sq R rx hL
          rw [hk] at hs
          obtain ⟨v, e1, e2⟩ := atD_ok rl he
          exact .inl (.inl ⟨a, xs, i, v, rfl, ry, hs, e1, hq F H _ (.refl F) R e2⟩)
        · cases hp
      · split at hp
        · rename_i e he
          cases hp
          exact .inr (dict he (fun e q => (Option.some.inj q).symm) rfl rfl)
        · cases hp
  · split at hp
    · rename_i e he
      cases hp
      exact .inr (dict he (fun e q => (Option.some.inj q).symm) rfl rfl)
    · cases hp
section
variable {X : Cx} {a b e : Expr} {f g : DE} {pos : Pos}
theorem ed_ix {k : Nat} (hr : Room k X.A) (ha : ED X a f) (hb : ED X b g) (hs : PlainIx b) : ED X (.Subscript a b pos) (dBin pIx f g) :=
  .of (pe_ix (IxR.or ix_seq (ix_dict (hu1 hr))) ha.pe hb.pe hs) fun F S H ρ σ d S' Q hk R rr hf hq => bin_go ok_ix hk R rr hf hq

/-! ### slices -/
def cutD (ds : List DV) (lo hi : Option Int) : List DV := (ds.drop (HT.sIx ds.length 0 lo)).take (HT.sIx ds.length ds.length hi - HT.sIx ds.length 0 lo)
theorem cutD_ok {F : Fm} {ds : List DV} {xs : List V} {lo hi : Option Int} (r : RelL F ds xs) : RelL F (cutD ds lo hi) (cutV xs lo hi) := by
  unfold cutD cutV
  rw [r.length]
  exact (r.drop _).take _
abbrev DO := Ev → Sto → Option (Option Int × Sto)
def oNone : DO := fun _ S => some (none, S)
def oSome (f : DE) : DO := fun ρ S => match f ρ S with
  | some (.int i, S1) => some (some i, S1)
  | _ => none
structure OD (X : Cx) (e : Option Expr) (t : TO) (f : DO) : Prop where
  po : PO X e t
  go : ∀ F S H ρ σ o S' (Q : Option Int → Hp → Prop), F.K = X.K → Rep F S H → RelE F ρ σ → f ρ S = some (o, S') → (∀ F' H', Le F F' → F'.K = X.K → Rep F' S' H' → RelE F' ρ σ → Q o H') → t σ H Q
theorem od_none : OD X none tNoPart oNone := ⟨po_none, fun F S H ρ σ o S' Q hk R rr hf hq => by
  cases (show some ((none : Option Int), S) = some (o, S') from hf)
  exact hq F H (.refl F) hk R rr⟩
theorem od_some (h : ED X e f) : OD X (some e) (tPart (rdE X.K f)) (oSome f) := ⟨po_some h.pe, fun F S H ρ σ o S' Q hk R rr hf hq => by
  unfold oSome at hf
  split at hf
  · rename_i i S1 h1
    cases hf
    exact rdE.go hk R rr h1 fun F1 H1 v le hk1 R1 r1 rv => ⟨i, rv, hq F1 H1 le hk1 R1 r1⟩
  · cases hf⟩
def pSl (x : DV) (lo hi : Option Int) (S : Sto) : Option (DV × Sto) := match x with
  | .tup ds => some (.tup (cutD ds lo hi), S)
  | .str s => if s.length ≤ sizeLine then some (.str (cutS s lo hi), S) else none
  | x => (match asL S x with
    | some ds => some (.lst .own (cutD ds lo hi), S)
    | none => none)
def dSl (p : DV → Option Int → Option Int → Sto → Option (DV × Sto)) (f : DE) (lo hi : DO) : DE := fun ρ S => match f ρ S with
  | some (x, S1) => (match lo ρ S1 with
    | some (l, S2) => (match hi ρ S2 with
      | some (u, S3) => p x l u S3
      | none => none)
    | none => none)
  | none => none
def OkSl (K : PySem.W.Frag) (p : DV → Option Int → Option Int → Sto → Option (DV × Sto)) (r : V → Option Int → Option Int → Hp → VK → Prop) : Prop :=
  ∀ F S H x vx lo hi d S' Q, F.K = K → Rep F S H → Rel F x vx → p x lo hi S = some (d, S') → PostE F S' d Q → r vx lo hi H Q
theorem sl_go {K : PySem.W.Frag} {p : DV → Option Int → Option Int → Sto → Option (DV × Sto)} {r : V → Option Int → Option Int → Hp → VK → Prop} {lo hi : Option Expr} {tl th : TO} {l u : DO} (hp : OkSl X.K p r) (h1 : OD X lo tl l) (h2 : OD X hi th u) {F : Fm} {S S' : Sto} {H : Hp} {ρ : Ev} {σ : L2.St} {d : DV} {Q : VK}
    (hk : F.K = X.K) (R : Rep F S H) (rr : RelE F ρ σ) (hf : dSl p f l u ρ S = some (d, S')) (hq : PostE F S' d Q) : tSl r (rdE X.K f) tl th σ H Q := by
  unfold dSl at hf
  split at hf
  · rename_i x S1 e1
    split at hf
    · rename_i l1 S2 e2
      split at hf
      · rename_i u1 S3 e3
        exact rdE.go hk R rr e1 fun F1 H1 v le hk1 R1 r1 rv => h1.go F1 S1 H1 ρ σ l1 S2 _ hk1 R1 r1 e2 fun F2 H2 le2 hk2 R2 r2 => h2.go F2 S2 H2 ρ σ u1 S3 _ hk2 R2 r2 e3 fun F3 H3 le3 hk3 R3 r3 =>
          hp F3 S3 H3 x v l1 u1 d S' Q hk3 R3 (rv.le (le2.trans le3)) hf (hq.le ((le.trans le2).trans le3))
      · cases hf
    · cases hf
  · cases hf
theorem ok_sl {K : PySem.W.Frag} : OkSl K pSl (fun x lo hi H Q => rSlL K x lo hi H Q ∨ (fun x lo hi H Q => rSlA K x lo hi H Q ∨ rSlS x lo hi H Q) x lo hi H Q) := fun F S H x vx lo hi d S' Q hk R rx hp hq => by
  unfold pSl at hp
  split at hp
  · rename_i ds
    cases hp
    obtain ⟨a, xs, e, hs, rl⟩ := tup_sq R rx
    rw [hk] at hs
    refine .inr (.inl ⟨a, xs, e, hs, fun hw => ?_, fun _ => new_tup R (cutD_ok rl) hq⟩)
    refine hq F H _ (.refl F) R ?_
    have e2 : cutD ds lo hi = ds := by
      unfold cutD
      rw [rl.length, hw.1, hw.2]
      rw [List.drop_zero, Nat.sub_zero, ← rl.length, List.take_length]
    rw [e2, ← e]
    exact rx
  · obtain ⟨h1, h2⟩ := of_ite hp
    cases h2
    exact .inr (.inr ⟨_, rx, h1, hq F H _ (.refl F) R rfl⟩)
  · split at hp
    · rename_i ds hL
      cases hp
      obtain ⟨a, xs, rfl, hs, rl⟩ := asL_sq R rx hL
      rw [hk] at hs
      exact .inl ⟨a, xs, rfl, hs, new_lst R (cutD_ok rl) hq⟩
    · cases hp
theorem ed_sl {lo hi : Option Expr} {tl th : TO} {l u : DO} {p2 : Pos} (ha : ED X a f) (h1 : OD X lo tl l) (h2 : OD X hi th u) : ED X (.Subscript a (.Slice lo hi none p2) pos) (dSl pSl f l u) :=
  .of (pe_slice (sl_list.or (sl_tupA.or sl_str)) ha.pe h1.po h2.po) fun F S H ρ σ d S' Q hk R rr hf hq => sl_go (K := X.K) ok_sl h1 h2 hk R rr hf hq
end
end Dn

namespace Dn
open PySem PySem.Spec PyProof.Rows L2

/-! ### built-ins -/
def pLen : PL := fun xs S => match xs with
  | [.str s] => if s.length ≤ sizeLine then some (.int s.length, S) else none
  | [.tup ds] => some (.int ds.length, S)
  | [.tupx ds] => some (.int ds.length, S)
  | [x] => (match asL S x with
    | some ds => some (.int ds.length, S)
    | none => (match asK0 S x with
      | some (ks, _) => some (.int ks.length, S)
      | none => (match asKT0 S x with
        | some (ks, _) => some (.int ks.length, S)
        | none => none)))
  | _ => none
abbrev rLenAll (K : PySem.W.Frag) : List V → Hp → VK → Prop := fun xs H Q => (∃ x n, xs = [x] ∧ LenV K x H n ∧ Q (.int n) H) ∨ (fun xs H Q => (∃ a kvs, xs = [V.ref a] ∧ H a = some (.dK kvs) ∧ Q (.int kvs.length) H) ∨ rLenT xs H Q) xs H Q
theorem call_lenAll {X : Cx} : CallR X (.builtin "len") (rLenAll X.K) := call_len.or (call_lenD.or call_len_dT)
theorem ok_len {K : PySem.W.Frag} : OkL K pLen (rLenAll K) := fun F S H xs vs d S' Q hk R r hp hq => by
  unfold pLen at hp
  split at hp
  · rename_i s
    obtain ⟨h1, h2⟩ := of_ite hp
    cases h2
    obtain ⟨v, _, rfl, rv, e⟩ := r
    obtain rfl := (show _ = [] from e)
    exact .inl ⟨v, s.length, rfl, by rw [show v = .str s from rv]; exact ⟨h1, rfl⟩, hq F H _ (.refl F) R rfl⟩
  · rename_i ds
    cases hp
    obtain ⟨v, _, rfl, rv, e⟩ := r
    obtain rfl := (show _ = [] from e)
    obtain ⟨a, us, rfl, hs, rl⟩ := tup_sq R rv
    rw [hk] at hs
    exact .inl ⟨_, us.length, rfl, .inr ⟨us, hs, rfl⟩, by rw [← rl.length]; exact hq F H _ (.refl F) R rfl⟩
  · rename_i ds
    cases hp
    obtain ⟨v, _, rfl, rv, e⟩ := r
    obtain rfl := (show _ = [] from e)
    obtain ⟨a, us, rfl, hs, rl⟩ := tupx_sq R rv
    rw [hk] at hs
    exact .inl ⟨_, us.length, rfl, .inr ⟨us, hs, rfl⟩, by rw [← rl.length]; exact hq F H _ (.refl F) R rfl⟩
  · obtain ⟨v, _, rfl, rv, e⟩ := r
    obtain rfl := (show _ = [] from e)
    split at hp
    · rename_i ds hL
      cases hp
      obtain ⟨a, us, rfl, hs, rl⟩ := asL_sq R rv hL
      rw [hk] at hs
      exact .inl ⟨_, us.length, rfl, .inl ⟨us, hs, rfl⟩, by rw [← rl.length]; exact hq F H _ (.refl F) R rfl⟩
    · split at hp
      · rename_i ks ds hK
        cases hp
        obtain ⟨a, us, rfl, hz, hs, rl⟩ := asK0_ok R rv hK
        refine .inr (.inl ⟨a, _, rfl, hs, ?_⟩)
        have e : (ks.zip us).length = ks.length := by
          rw [List.length_zip, ← rl.length, hz, Nat.min_self]
        rw [e]
        exact hq F H _ (.refl F) R rfl
      · split at hp
        · rename_i ks ds hK
          cases hp
          obtain ⟨a, us, rfl, hz, hs, rl⟩ := asKT0_ok R rv hK
          refine .inr (.inr ⟨a, _, rfl, hs, ?_⟩)
          have e : (ks.zip us).length = ks.length := by
            rw [List.length_zip, ← rl.length, hz, Nat.min_self]
          rw [e]
          exact hq F H _ (.refl F) R rfl
        · cases hp
  · cases hp
/-- int(..) of an int, a truth, a text -/
def pInt : PL := fun xs S => match xs with
  | [.int i] => some (.int i, S)
  | [.bl b] => some (.int (if b then 1 else 0), S)
  | [.str a] => if a.length ≤ 640 then (match PySem.intText? a with
    | some n => some (.int n, S)
    | none => none) else none
  | _ => none
theorem rel1 {F : Fm} {d : DV} {v : V} (h : Rel F d v) : RelL F [d] [v] := ⟨v, [], rfl, h, rfl⟩
theorem one {F : Fm} {d : DV} {vs : List V} (r : RelL F [d] vs) : ∃ v, vs = [v] ∧ Rel F d v := by
  obtain ⟨v, _, rfl, rv, e⟩ := r
  obtain rfl := (show _ = [] from e)
  exact ⟨v, rfl, rv⟩
abbrev rIntAll : List V → Hp → VK → Prop := fun xs H Q => ((∃ i, xs = [.int i] ∧ Q (.int i) H) ∨ ∃ k, xs = [.bl k] ∧ Q (.int (if k then 1 else 0)) H) ∨ (∃ a n, xs = [.str a] ∧ PySem.intText? a = some n ∧ a.length ≤ 640 ∧ Q (.int n) H)
theorem call_intAll {X : Cx} : CallR X (.type "int") rIntAll := call_int1.or call_int_str
theorem ok_int {K : PySem.W.Frag} : OkL K pInt rIntAll := fun F S H xs vs d S' Q hk R r hp hq => by
  unfold pInt at hp
  split at hp
  · rename_i i
    cases hp
    obtain ⟨v, rfl, rv⟩ := one r
    obtain rfl := (show v = .int i from rv)
    exact .inl (.inl ⟨i, rfl, hq F H _ (.refl F) R rfl⟩)
  · rename_i b
    cases hp
    obtain ⟨v, rfl, rv⟩ := one r
    obtain rfl := (show v = .bl b from rv)
    exact .inl (.inr ⟨b, rfl, hq F H _ (.refl F) R rfl⟩)
  · rename_i a
    obtain ⟨h1, hp⟩ := of_ite hp
    split at hp
    · rename_i n hn
      cases hp
      obtain ⟨v, rfl, rv⟩ := one r
      obtain rfl := (show v = .str a from rv)
      exact .inr ⟨a, n, rfl, hn, h1, hq F H _ (.refl F) R rfl⟩
    · cases hp
  · cases hp
def pStr : PL := fun xs S => match xs with
  | [.int i] => if i.natAbs.log2 < 1920 then some (.str (toString i), S) else none
  | [.str a] => some (.str a, S)
  | _ => none
abbrev rStrAll : List V → Hp → VK → Prop := fun xs H Q => (∃ i : Int, xs = [.int i] ∧ i.natAbs.log2 < 1920 ∧ Q (.str (toString i)) H) ∨ (∃ a, xs = [.str a] ∧ Q (.str a) H)
theorem call_strAll {X : Cx} : CallR X (.type "str") rStrAll := call_str_int.or SkE.call_str_str
theorem ok_str {K : PySem.W.Frag} : OkL K pStr rStrAll := fun F S H xs vs d S' Q hk R r hp hq => by
  unfold pStr at hp
  split at hp
  · rename_i i
    obtain ⟨h1, hp⟩ := of_ite hp
    cases hp
    obtain ⟨v, rfl, rv⟩ := one r
    obtain rfl := (show v = .int i from rv)
    exact .inl ⟨i, rfl, h1, hq F H _ (.refl F) R rfl⟩
  · rename_i b
    cases hp
    obtain ⟨v, rfl, rv⟩ := one r
    obtain rfl := (show v = .str b from rv)
    exact .inr ⟨b, rfl, hq F H _ (.refl F) R rfl⟩
  · cases hp
/-- list(..), tuple(..) -/
def kdv : Key → DV
  | .inl i => .int i
  | .inr s => .str s
def itemsD (S : Sto) (x : DV) : Option (List DV) := match x with
  | .tup ds => some ds
  | .tupx ds => some ds
  | x => asL S x
def pList : PL := fun xs S => match xs with
  | [x] => (match itemsD S x with
    | some ds => some (.lst .own ds, S)
    | none => (match asK0 S x with
      | some (ks, _) => some (.lst .own (ks.map kdv), S)
      | none => (match asKT S x with
        | some (ks, _) => some (.lst .own (ks.map fun k => .tup (k.map kdv)), S)
        | none => none)))
  | _ => none
def pTuple : PL := fun xs S => match xs with
  | [.tup ds] => some (.tup ds, S)
  | [x] => (match asL S x with
    | some ds => some (.tup ds, S)
    | none => none)
  | _ => none
theorem itemsD_sq {F : Fm} {S : Sto} {H : Hp} {x : DV} {v : V} {ds : List DV} (R : Rep F S H) (r : Rel F x v) (h : itemsD S x = some ds) : ∃ a xs, v = .ref a ∧ (SqL F.K H a xs ∨ SqT F.K H a xs) ∧ RelL F ds xs := by
  unfold itemsD at h
  split at h
  · cases h
    obtain ⟨a, us, rfl, hs, rl⟩ := tup_sq R r
    exact ⟨a, us, rfl, .inr hs, rl⟩
  · cases h
    obtain ⟨a, us, rfl, hs, rl⟩ := tupx_sq R r
    exact ⟨a, us, rfl, .inr hs, rl⟩
  · obtain ⟨a, us, rfl, hs, rl⟩ := asL_sq R r h
    exact ⟨a, us, rfl, .inl hs, rl⟩
abbrev rTupAll (K : PySem.W.Frag) : List V → Hp → VK → Prop := fun xs H Q => ∃ p ys, xs = [.ref p] ∧ ((SqL K H p ys ∧ ∀ l, H l = none → Q (.ref l) (upd H l (.tup ys))) ∨ (SqT K H p ys ∧ Q (.ref p) H))
theorem ok_tuple {K : PySem.W.Frag} : OkL K pTuple (rTupAll K) := fun F S H xs vs d S' Q hk R r hp hq => by
  unfold pTuple at hp
  split at hp
  · rename_i ds
    cases hp
    obtain ⟨v, rfl, rv⟩ := one r
    obtain ⟨a, us, e, hs, rl⟩ := tup_sq R rv
    rw [hk] at hs
    exact ⟨a, us, by rw [e], .inr ⟨hs, by rw [← e]; exact hq F H _ (.refl F) R rv⟩⟩
  · obtain ⟨v, rfl, rv⟩ := one r
    split at hp
    · rename_i ds hL
      cases hp
      obtain ⟨a, us, rfl, hs, rl⟩ := asL_sq R rv hL
      rw [hk] at hs
      exact ⟨a, us, rfl, .inl ⟨hs, new_tup R rl hq⟩⟩
    · cases hp
  · cases hp
/-! isinstance(x, T), T a built-in class -/
inductive Ty7 where
  | non | bool | int | str | list | tuple | dict
  deriving DecidableEq
def Ty7.name : Ty7 → String
  | .non => "NoneType"
  | .bool => "bool"
  | .int => "int"
  | .str => "str"
  | .list => "list"
  | .tuple => "tuple"
  | .dict => "dict"
def isT : Ty7 → Ty7 → Bool
  | .bool, .int => true
  | a, b => decide (a = b)
theorem isT_ok : ∀ a b : Ty7, b ≠ .non → kitB a.name b.name = some (isT a b) := by
  intro a b h
  cases a <;> cases b <;> first | exact absurd rfl h | rfl | decide +kernel
def tyD (S : Sto) : DV → Option Ty7
  | .non => some .non
  | .bl _ => some .bool
  | .int _ => some .int
  | .str _ => some .str
  | .tup _ => some .tuple
  | .lst .own _ => some .list
  | .lst .bor _ => some .list
  | .dik _ _ _ => some .dict
  | .dit _ _ _ => some .dict
  | .loc n => match S[n]? with
    | some (.lst _) => some .list
    | some (.dik _ _) => some .dict
    | some (.dit _ _) => some .dict
    | some (.frz (.lst .own _)) => some .list
    | _ => none
  | _ => none
theorem tyD_ok {F : Fm} {S : Sto} {H : Hp} {d : DV} {v : V} {t : Ty7} (R : Rep F S H) (r : Rel F d v) (h : tyD S d = some t) : TyX F.K H v (.type t.name) := by
  cases d with
  | non =>
    cases h
    obtain rfl := (show v = _ from r)
    exact .base .non
  | bl b =>
    cases h
    obtain rfl := (show v = _ from r)
    exact .base (.bl b)
  | int b =>
    cases h
    obtain rfl := (show v = _ from r)
    exact .base (.int b)
  | str b =>
    cases h
    obtain rfl := (show v = _ from r)
    exact .base (.str b)
  | tup ds =>
    cases h
    obtain ⟨a, xs, rfl, hs, _⟩ := tup_at R r
    exact .base (.tup hs)
  | tupx ds => cases h
  | lst k ds =>
    cases k with
    | own =>
      cases h
      obtain ⟨a, xs, rfl, hs, _⟩ := r
      exact .base (.lst (R.g _ _ hs))
    | bor =>
      cases h
      obtain ⟨a, xs, rfl, hs, _⟩ := r
      exact .base (.lst (hs.elim (R.b _ _) (R.g _ _)))
    | ext => cases h
  | dik k ks ds =>
    cases h
    obtain ⟨a, xs, rfl, _, hs, _⟩ := r
    exact .base (.dK (hs.elim (R.g _ _) fun h => R.b _ _ h.2))
  | dit k ks ds =>
    cases h
    obtain ⟨a, xs, rfl, _, hs, _⟩ := r
    exact .base (.dT (hs.elim (R.g _ _) fun h => R.b _ _ h.2))
  | loc n =>
    obtain ⟨a, ha, rfl⟩ := r
    unfold tyD at h
    simp only at h
    split at h
    · rename_i es hc
      cases h
      obtain ⟨⟨xs, e, rl⟩, _⟩ := R.cell n _ a hc ha
      exact .base (.lst e)
    · rename_i es fs hc
      cases h
      obtain ⟨⟨xs, hz, e, rl⟩, _⟩ := R.cell n _ a hc ha
      exact .base (.dK e)
    · rename_i es fs hc
      cases h
      obtain ⟨⟨xs, hz, e, rl⟩, _⟩ := R.cell n _ a hc ha
      exact .base (.dT e)
    · rename_i es hc
      cases h
      obtain ⟨rl, _⟩ := R.cell n _ a hc ha
      obtain ⟨b, xs, e1, hs, _⟩ := (show Rel F (.lst .own es) (.ref a) from rl)
      cases e1
      exact .base (.lst (R.g _ _ hs))
    · cases h
def dIsi (T : Ty7) (f : DE) : DE := fun ρ S => match f ρ S with
  | some (x, S1) => (match tyD S1 x with
    | some t => some (.bl (isT t T), S1)
    | none => none)
  | none => none
section
variable {X : Cx} {e a b : Expr} {f g : DE} {pos : Pos}
theorem isi_go {T : Ty7} (hT : T ≠ .non) {F : Fm} {S S' : Sto} {H : Hp} {ρ : Ev} {σ : L2.St} {d : DV} {Q : VK} (hk : F.K = X.K) (R : Rep F S H) (rr : RelE F ρ σ) (hf : dIsi T f ρ S = some (d, S')) (hq : PostE F S' d Q) :
    tCB (rIsi X.K) (tCons (rdE X.K f) (tCons (tC (.ty T.name)) tNil)) σ H Q := by
  unfold dIsi at hf
  split at hf
  · rename_i x S1 h1
    split at hf
    · rename_i t ht
      cases hf
      refine rdE.go hk R rr h1 fun F1 H1 v le hk1 R1 r1 rv => ?_
      have ty := tyD_ok R1 rv ht
      rw [hk1] at ty
      exact ⟨v, .ty T.name, .type t.name, .type T.name, isT t T, rfl, .ty _, ty, kit_ty (isT_ok t T hT), hq F1 H1 _ le R1 rfl⟩
    · cases hf
  · cases hf
theorem ed_isi {T : Ty7} (hT : T ≠ .non) (ha : ED X a f) (h : ∀ {t : TE}, PE X a t → PE X e (tCB (rIsi X.K) (tCons t (tCons (tC (.ty T.name)) tNil)))) : ED X e (dIsi T f) :=
  .of (h ha.pe) fun F S H ρ σ d S' Q hk R rr hf hq => isi_go hT hk R rr hf hq
end
/-! min, max, sum, any, all -/
def blsD : List DV → Option (List Bool)
  | [] => some []
  | .bl i :: ds => (match blsD ds with
    | some is => some (i :: is)
    | none => none)
  | _ => none
def strsD : List DV → Option (List Str)
  | [] => some []
  | .str i :: ds => (match strsD ds with
    | some is => some (i :: is)
    | none => none)
  | _ => none
theorem blsD_ok {F : Fm} : ∀ {ds : List DV} {vs : List V} {is : List Bool}, RelL F ds vs → blsD ds = some is → vs = is.map V.bl
  | [], vs, is, r, h => by
    cases (show some ([] : List Bool) = some is from h)
    exact r
  | d :: ds, vs, is, r, h => by
    unfold blsD at h
    split at h
    · rename_i e
      cases e
    · rename_i i ds' e
      cases e
      split at h
      · rename_i js hj
        cases h
        obtain ⟨x, xr, rfl, h1, h2⟩ := r
        rw [blsD_ok h2 hj, show x = .bl i from h1] <;> rfl
      · cases h
    · cases h
theorem strsD_ok {F : Fm} : ∀ {ds : List DV} {vs : List V} {is : List Str}, RelL F ds vs → strsD ds = some is → vs = is.map V.str
  | [], vs, is, r, h => by
    cases (show some ([] : List Str) = some is from h)
    exact r
  | d :: ds, vs, is, r, h => by
    unfold strsD at h
    split at h
    · rename_i e
      cases e
    · rename_i i ds' e
      cases e
      split at h
      · rename_i js hj
        cases h
        obtain ⟨x, xr, rfl, h1, h2⟩ := r
        rw [strsD_ok h2 hj, show x = .str i from h1] <;> rfl
      · cases h
    · cases h
def pAll : PL := fun xs S => match xs with
  | [x] => (match asL S x with
    | some ds => (match blsD ds with
      | some is => some (.bl (is.all id), S)
      | none => none)
    | none => none)
  | _ => none
theorem ok_all {K : PySem.W.Frag} : OkL K pAll (rAll K) := fun F S H xs vs d S' Q hk R r hp hq => by
  unfold pAll at hp
  split at hp
  · obtain ⟨v, rfl, rv⟩ := one r
    split at hp
    · rename_i ds hL
      split at hp
      · rename_i is his
        cases hp
        obtain ⟨a, us, rfl, hs, rl⟩ := asL_sq R rv hL
        rw [hk] at hs
        obtain rfl := blsD_ok rl his
        exact ⟨a, is, rfl, hs, hq F H _ (.refl F) R rfl⟩
      · cases hp
    · cases hp
  · cases hp
end Dn

namespace Dn
open PySem PySem.Spec PyProof.Rows L2

/-! ### methods of lists -/
abbrev PM := DV → List DV → Sto → Option (DV × Sto)
def dMt (p : PM) (f : DE) (fa : DA) : DE := fun ρ S => match f ρ S with
  | some (x, S1) => (match asL S1 x with
    | some _ => (match fa ρ S1 with
      | some (xs, S2) => p x xs S2
      | none => none)
    | none => none)
  | none => none
def OkM (K : PySem.W.Frag) (p : PM) (r : V → List V → Hp → VK → Prop) : Prop := ∀ F S H x vx xs vs d S' Q, F.K = K → Rep F S H → Rel F x vx → RelL F xs vs → p x xs S = some (d, S') → PostE F S' d Q → r vx vs H Q
section
variable {X : Cx} {e a b o : Expr} {f g : DE} {fa : DA} {pos : Pos} {st : Stmt}
theorem mt_go {p : PM} {r : V → List V → Hp → VK → Prop} (hp : OkM X.K p r) {F : Fm} {S S' : Sto} {H : Hp} {ρ : Ev} {σ : L2.St} {d : DV} {Q : VK} (hk : F.K = X.K) (R : Rep F S H) (rr : RelE F ρ σ) (hf : dMt p f fa ρ S = some (d, S')) (hq : PostE F S' d Q) :
    tBM X.K "list" r (rdE X.K f) (rdA X.K fa) σ H Q := by
  unfold dMt at hf
  split at hf
  · rename_i x S1 h1
    split at hf
    · rename_i ds hL
      split at hf
      · rename_i xs S2 h2
        refine rdE.go hk R rr h1 fun F1 H1 v le hk1 R1 r1 rv => ?_
        obtain ⟨l, us, rfl, hs, rl⟩ := asL_sq R1 rv hL
        rw [hk1] at hs
        refine ⟨.inl ⟨rfl, us, hs⟩, rdA.go hk1 R1 r1 h2 fun F2 H2 vs le2 hk2 R2 r2 ra => ?_⟩
        exact hp F2 S2 H2 x _ xs vs d S' Q hk2 R2 (rv.le le2) ra hf (hq.le (le.trans le2))
      · cases hf
    · cases hf
  · cases hf
theorem ed_mt {es : List Expr} {p : PM} {r : V → List V → Hp → VK → Prop} (hp : OkM X.K p r) (ho : ED X o f) (ha : AD X es fa) (h : ∀ {t : TA} {u : TE}, PE X o u → PA X es t → PE X e (tBM X.K "list" r u t)) : ED X e (dMt p f fa) :=
  .of (h ho.pe ha.pa) fun F S H ρ σ d S' Q hk R rr hf hq => mt_go hp hk R rr hf hq
end
def pAppend : PM := fun x xs S => match x, xs with
  | .loc n, [y] => (match S[n]? with
    | some (.lst ds) => if ds.length < sizeLine then some (.non, S.set n (.lst (ds ++ [y]))) else none
    | _ => none)
  | _, _ => none
theorem lst_write {F : Fm} {S : Sto} {H : Hp} {n : Nat} {ds es : List DV} {vs us : List V} {a : Addr} {v : V} {d : DV} {Q : VK} (R : Rep F S H) (hc : S[n]? = some (.lst ds)) (ha : F.lm[n]? = some a) (rl : RelL F es us) (rd : Rel F d v) (hq : PostE F (S.set n (.lst es)) d Q) : Q v (upd H a (.lst us)) :=
  hq F _ v (.refl F) (R.write hc rfl ha (fun _ q => nomatch q) rfl ⟨us, upd_same, rl⟩) rd
section
variable {K : PySem.W.Frag}
theorem ok_append : OkM K pAppend rAppend := fun F S H x vx xs vs d S' Q hk R rx rl hp hq => by
  unfold pAppend at hp
  split at hp
  · rename_i n y
    split at hp
    · rename_i ds hc
      obtain ⟨h1, h2⟩ := of_ite hp
      cases h2
      obtain ⟨a, ha, rfl⟩ := rx
      obtain ⟨v, rfl, rv⟩ := one rl
      obtain ⟨⟨us, e, ru⟩, _⟩ := R.cell n _ a hc ha
      exact ⟨a, us, v, rfl, rfl, e, by rw [← ru.length]; exact h1, lst_write (vs := us) R hc ha (us := us ++ [v]) (ru.append (rel1 rv)) (d := .non) (v := .non) rfl hq⟩
    · cases hp
  · cases hp
end

/-! ### methods of texts with one argument -/
def dM1 (p : Str → DV → Sto → Option (DV × Sto)) (f g : DE) : DE := fun ρ S => match f ρ S with
  | some (.str a, S1) => (match g ρ S1 with
    | some (y, S2) => p a y S2
    | none => none)
  | _ => none
section
variable {X : Cx} {e a b o : Expr} {f g : DE} {fa : DA} {pos : Pos} {st : Stmt}
theorem ed_m1 {p : Str → DV → Sto → Option (DV × Sto)} {r : V → List V → Hp → VK → Prop} (hp : ∀ F S H x y vy d S' Q, F.K = X.K → Rep F S H → Rel F y vy → p x y S = some (d, S') → PostE F S' d Q → r (.str x) [vy] H Q)
    (ho : ED X o f) (hb : ED X b g) (h : ∀ {t u : TE}, PE X o t → PE X b u → PE X e (tM1 r t u)) : ED X e (dM1 p f g) :=
  .of (h ho.pe hb.pe) fun F S H ρ σ d S' Q hk R rr hf hq => by
    unfold dM1 at hf
    split at hf
    · rename_i x S1 h1
      split at hf
      · rename_i y S2 h2
        refine rdE.go hk R rr h1 fun F1 H1 v le hk1 R1 r1 rv => ⟨⟨x, rv⟩, rdE.go hk1 R1 r1 h2 fun F2 H2 u le2 hk2 R2 r2 ru => ?_⟩
        obtain rfl := (show v = .str x from rv)
        exact hp F2 S2 H2 x y u d S' Q hk2 R2 ru hf (hq.le (le.trans le2))
      · cases hf
    · cases hf
def pJoin : Str → DV → Sto → Option (DV × Sto) := fun a y S => match itemsD S y with
  | some ds => (match strsD ds with
    | some ys => if (ys.map (·.length)).sum + ys.length * a.length ≤ 16777216 then some (.str (Txt.join a ys), S) else none
    | none => none)
  | none => none
theorem ok_join {K : PySem.W.Frag} (F : Fm) (S : Sto) (H : Hp) (x : Str) (y : DV) (vy : V) (d : DV) (S' : Sto) (Q : VK) (hk : F.K = K) (R : Rep F S H) (ry : Rel F y vy) (hp : pJoin x y S = some (d, S')) (hq : PostE F S' d Q) :
    ∃ a p, ∃ ys : List Str, V.str x = .str a ∧ [vy] = [.ref p] ∧ (SqL K H p (ys.map V.str) ∨ SqT K H p (ys.map V.str)) ∧ (ys.map (·.length)).sum + ys.length * a.length ≤ 16777216 ∧ Q (.str (Txt.join a ys)) H := by
  unfold pJoin at hp
  split at hp
  · rename_i ds hL
    split at hp
    · rename_i ys hy
      obtain ⟨h1, h2⟩ := of_ite hp
      cases h2
      obtain ⟨p, us, rfl, hs, rl⟩ := itemsD_sq R ry hL
      rw [hk] at hs
      obtain rfl := strsD_ok rl hy
      exact ⟨x, p, ys, rfl, rfl, hs, h1, hq F H _ (.refl F) R rfl⟩
    · cases hp
  · cases hp
def pSplit (m : Bool) : Str → DV → Sto → Option (DV × Sto) := fun a y S => match y with
  | .str b => if (b.length == 0) = false ∧ a.length + 2 ≤ sizeLine then (if m then some (.loc S.length, S ++ [.lst ((Txt.split a b).map DV.str)]) else some (.lst .own ((Txt.split a b).map DV.str), S)) else none
  | _ => none
theorem strs_rel {F : Fm} : ∀ ys : List Str, RelL F (ys.map DV.str) (ys.map V.str)
  | [] => rfl
  | y :: ys => ⟨_, _, rfl, rfl, strs_rel ys⟩
theorem ints_rel {F : Fm} : ∀ ys : List Int, RelL F (ys.map DV.int) (ys.map V.int)
  | [] => rfl
  | y :: ys => ⟨_, _, rfl, rfl, ints_rel ys⟩
theorem ok_split {K : PySem.W.Frag} {m : Bool} (F : Fm) (S : Sto) (H : Hp) (x : Str) (y : DV) (vy : V) (d : DV) (S' : Sto) (Q : VK) (hk : F.K = K) (R : Rep F S H) (ry : Rel F y vy) (hp : pSplit m x y S = some (d, S')) (hq : PostE F S' d Q) :
    ∃ a b, V.str x = .str a ∧ [vy] = [.str b] ∧ (b.length == 0) = false ∧ a.length + 2 ≤ sizeLine ∧ rNewStrs (Txt.split a b) H Q := by
  unfold pSplit at hp
  split at hp
  · rename_i b
    obtain ⟨⟨h1, h2⟩, h3⟩ := of_ite hp
    obtain rfl := (show vy = .str b from ry)
    cases m with
    | false =>
      cases h3
      exact ⟨x, b, rfl, rfl, h1, h2, new_lst R (strs_rel _) hq⟩
    | true =>
      cases h3
      exact ⟨x, b, rfl, rfl, h1, h2, new_lstM R (strs_rel _) hq⟩
  · cases hp
/-! ### d.get -/
theorem ed_dnewK (h : PE X e tDNewK) : ED X e (fun _ S => some (.loc S.length, S ++ [.dik [] []])) :=
  .of h fun F S H ρ σ d S' Q hk R rr hf hq p hp => by
    cases hf
    have R' := R.alloc (o := .dK []) (c := .dik [] []) hp (fun _ q => nomatch q) ⟨[], rfl, upd_same, rfl⟩
    exact hq _ _ _ (F.cell_le p) R' ⟨p, by rw [← R.len]; exact get_len _ _, rfl⟩
/-! ### o[i] = v -/
def setI (x i y : DV) (S : Sto) : Option Sto := match x with
  | .loc n => (match S[n]? with
    | some (.lst ds) => (match i with
      | .int k => (match ixN ds.length k with
        | some j => some (S.set n (.lst (ds.set j y)))
        | none => none)
      | _ => none)
    | some (.dik ks ds) => (match keyD i with
      | some k => if ks.length < sizeLine then some (S.set n (.dik (putKs ks k) (putVs ks ds k y))) else none
      | none => none)
    | some (.dit ks ds) => (match keyT i with
      | some k => if ks.length < sizeLine then some (S.set n (.dit (putKs ks k) (putVs ks ds k y))) else none
      | none => none)
    | _ => none)
  | _ => none
end
theorem any_zip {κ : Type} [DecidableEq κ] {j : κ} : ∀ {ks : List κ} {xs : List V}, ks.length = xs.length → ((ks.zip xs).any fun kv => decide (kv.1 = j)) = hasK ks j
  | [], _, _ => by rw [List.zip_nil_left] <;> rfl
  | k :: ks, [], h => by cases h
  | k :: ks, x :: xs, h => by
    have ih := any_zip (j := j) (Nat.succ.inj h)
    unfold hasK at ih ⊢
    rw [List.zip_cons_cons, List.any_cons, List.any_cons, ih]
theorem rp_zip {κ : Type} [DecidableEq κ] {j : κ} {v : V} : ∀ {ks : List κ} {xs : List V}, ks.length = xs.length → ks.zip (rpG j v ks xs) = (ks.zip xs).map fun kv => if kv.1 = j then (kv.1, v) else kv
  | [], _, _ => by rw [List.zip_nil_left, List.zip_nil_left] <;> rfl
  | k :: ks, [], h => by cases h
  | k :: ks, x :: xs, h => by
    have ih := rp_zip (j := j) (v := v) (Nat.succ.inj h)
    unfold rpG
    rw [List.zip_cons_cons, List.zip_cons_cons, List.map_cons, ih]
    by_cases q : k = j
    · simp only [if_pos q]
    · simp only [if_neg q]
theorem rp_len {κ α : Type} [DecidableEq κ] {j : κ} {x : α} : ∀ {ks : List κ} {xs : List α}, ks.length = xs.length → (rpG j x ks xs).length = ks.length
  | [], _, _ => rfl
  | k :: ks, [], h => by cases h
  | k :: ks, y :: xs, h => by
    unfold rpG
    rw [List.length_cons, List.length_cons, rp_len (Nat.succ.inj h)]
theorem rp_rel {κ : Type} [DecidableEq κ] {F : Fm} {j : κ} {y : DV} {v : V} (ry : Rel F y v) : ∀ {ks : List κ} {ds : List DV} {xs : List V}, RelL F ds xs → RelL F (rpG j y ks ds) (rpG j v ks xs)
  | [], _, _, _ => rfl
  | k :: ks, [], xs, h => by
    obtain rfl := h.nil
    exact rfl
  | k :: ks, d :: ds, xs, h => by
    obtain ⟨x, xr, rfl, h1, h2⟩ := h
    refine ⟨_, _, rfl, ?_, rp_rel ry h2⟩
    by_cases q : k = j
    · rw [if_pos q, if_pos q]
      exact ry
    · rw [if_neg q, if_neg q]
      exact h1
/-- a dict's values behind a store -/
theorem put_ok {κ : Type} [DecidableEq κ] {F : Fm} {j : κ} {y : DV} {v : V} (ry : Rel F y v) {ks : List κ} {ds : List DV} {xs : List V} (hz : ks.length = ds.length) (rl : RelL F ds xs) :
    ∃ ys, (putKs ks j).length = (putVs ks ds j y).length ∧ RelL F (putVs ks ds j y) ys ∧ putK (ks.zip xs) j v = (putKs ks j).zip ys := by
  have hx : ks.length = xs.length := hz.trans rl.length
  unfold putKs putVs putK
  rw [any_zip hx]
  by_cases q : hasK ks j = true
  · rw [if_pos q, if_pos q, if_pos q]
    exact ⟨rpG j v ks xs, (rp_len hz).symm, rp_rel ry rl, (rp_zip hx).symm⟩
  · rw [if_neg q, if_neg q, if_neg q]
    refine ⟨xs ++ [v], by simp [hz], rl.append (rel1 ry), ?_⟩
    rw [List.zip_append hx] <;> rfl
def rSetD : V → V → V → Hp → (Hp → Prop) → Prop := fun o i v H Q => ∃ a H', o = .ref a ∧ DPut H a i v H' ∧ Q H'
theorem set_dict {X : Cx} (hu : X.A.units + 1 < cLine) : PSet X rSetD := fun pins s σ H o i v ov iv u Q I ro ri rv h => by
  obtain ⟨a, H', rfl, g, q⟩ := h
  obtain rfl : ov = Value.ref a := ro
  exact d_setItem hu I g ri rv fun s' I' => ⟨H', I', q⟩
theorem PSet.or {X : Cx} {t u : TSet} (h : PSet X t) (k : PSet X u) : PSet X (fun o i v H Q => t o i v H Q ∨ u o i v H Q) := fun pins s σ H o i v ov iv w Q I ro ri rv h' => h'.elim (h pins s σ H o i v ov iv w Q I ro ri rv) (k pins s σ H o i v ov iv w Q I ro ri rv)
theorem setI_ok {F : Fm} {S S' : Sto} {H : Hp} {x i y : DV} {vx vi vy : V} {Q : Hp → Prop} (R : Rep F S H) (rx : Rel F x vx) (ri : Rel F i vi) (ry : Rel F y vy) (h : setI x i y S = some S') (hq : ∀ H', Rep F S' H' → Q H') : rSetL vx vi vy H Q ∨ rSetD vx vi vy H Q := by
  unfold setI at h
  split at h
  · rename_i n
    obtain ⟨a, ha, rfl⟩ := rx
    split at h
    · rename_i ds hc
      split at h
      · rename_i k
        split at h
        · rename_i j hj
          cases h
          obtain rfl := (show vi = .int k from ri)
          obtain ⟨⟨us, e, ru⟩, _⟩ := R.cell n _ a hc ha
          exact .inl ⟨a, us, k, j, rfl, rfl, e, by rw [← ru.length]; exact hj, hq _ (R.write hc rfl ha (fun _ q => nomatch q) rfl ⟨us.set j vy, upd_same, ru.set ry j⟩)⟩
        · cases h
      · cases h
    · rename_i ks ds hc
      split at h
      · rename_i k hk
        obtain ⟨h1, h⟩ := of_ite h
        cases h
        obtain rfl := keyD_ok ri hk
        obtain ⟨⟨us, hz, e, ru⟩, _⟩ := R.cell n _ a hc ha
        obtain ⟨ys, p1, p2, p3⟩ := put_ok (j := k) ry hz ru
        have hl : (ks.zip us).length < sizeLine := by
          rw [List.length_zip, ← ru.length, hz, Nat.min_self, ← hz]
          exact h1
        refine .inr ⟨a, _, rfl, DPut.k e hl, hq _ ?_⟩
        rw [p3]
        exact R.write hc rfl ha (fun _ q => nomatch q) rfl ⟨ys, p1, upd_same, p2⟩
      · cases h
    · rename_i ks ds hc
      split at h
      · rename_i k hk
        obtain ⟨h1, h⟩ := of_ite h
        cases h
        unfold keyT at hk
        split at hk
        · rename_i es
          obtain ⟨b, ws, rfl, hb, rb⟩ := tup_at R ri
          obtain rfl := keysD_ok rb hk
          obtain ⟨⟨us, hz, e, ru⟩, _⟩ := R.cell n _ a hc ha
          obtain ⟨ys, p1, p2, p3⟩ := put_ok (j := k) ry hz ru
          have hl : (ks.zip us).length < sizeLine := by
            rw [List.length_zip, ← ru.length, hz, Nat.min_self, ← hz]
            exact h1
          refine .inr ⟨a, _, rfl, DPut.t e hb hl, hq _ ?_⟩
          rw [p3]
          exact R.write hc rfl ha (fun _ q => nomatch q) rfl ⟨ys, p1, upd_same, p2⟩
        · cases hk
      · cases h
    · cases h
  · cases h
def dSub (v o i : DE) : DS := fun ρ S => match v ρ S with
  | some (y, S1) => (match o ρ S1 with
    | some (x, S2) => (match i ρ S2 with
      | some (k, S3) => (match setI x k y S3 with
        | some S4 => some (.nx ρ S4)
        | none => none)
      | none => none)
    | none => none)
  | none => none
section
variable {X : Cx} {e a b o : Expr} {f g : DE} {fa : DA} {pos : Pos} {st : Stmt}
theorem sd_sub {v : DE} (h : PS X st (tAsg (rdE X.K v) (L2.gSub (rdE X.K f) (rdE X.K g) (fun o i v H Q => rSetL o i v H Q ∨ rSetD o i v H Q)))) : SD X st (dSub v f g) := .of h fun F S H ρ σ o D hk R rr hf hq => by
  unfold dSub at hf
  split at hf
  · rename_i y S1 h1
    split at hf
    · rename_i x S2 h2
      split at hf
      · rename_i k S3 h3
        split at hf
        · rename_i S4 h4
          cases hf
          exact rdE.go hk R rr h1 fun F1 H1 vy le1 hk1 R1 r1 ry => rdE.go hk1 R1 r1 h2 fun F2 H2 vx le2 hk2 R2 r2 rx => rdE.go hk2 R2 r2 h3 fun F3 H3 vk le3 hk3 R3 r3 rk =>
            setI_ok R3 (rx.le le3) rk (ry.le (le2.trans le3)) h4 fun H' R' => hq F3 H' ((le1.trans le2).trans le3) R' σ r3
        · cases hf
      · cases hf
    · cases hf
  · cases hf
/-- x += e over ints -/
def dAug (i : Nat) (p : P2) (f : DE) : DS := fun ρ S => match ρ[i]? with
  | some (some x) => (match f ρ S with
    | some (y, S1) => (match p x y S1 with
      | some (d, S2) => some (.nx (ρ.set i (some d)) S2)
      | none => none)
    | none => none)
  | _ => none
theorem sd_aug {i : Nat} {p : P2} {t : TIp} (hp : Ok2 X.K p t) (h : PS X st (tAug i (rdE X.K f) t)) : SD X st (dAug i p f) := .of h fun F S H ρ σ o D hk R rr hf hq => by
  unfold dAug at hf
  split at hf
  · rename_i x hx
    split at hf
    · rename_i y S1 h1
      split at hf
      · rename_i d S2 h2
        cases hf
        obtain ⟨vx, e1, rx⟩ := rr.at_ i x hx
        exact ⟨vx, e1, rdE.go hk R rr h1 fun F1 H1 vy le1 hk1 R1 r1 ry => hp F1 S1 H1 x y vx vy d S2 _ hk1 R1 (rx.le le1) ry h2 fun F2 H2 v le2 R2 rv => hq F2 H2 (le1.trans le2) R2 _ ((r1.le le2).set i rv)⟩
      · cases hf
    · cases hf
  · cases hf
abbrev pAddI : P2 := pI fun i j => some (i + j)
theorem ok_ipadd {K : PySem.W.Frag} : Ok2 K pAddI (ipI fun i j => i + j) := ok_I0
/-! ### what loops walk -/
def iSeq (f : DE) : DI := fun ρ S => match f ρ S with
  | some (x, S1) => (match x with
    | .tup ds => some (ds, S1)
    | .tupx ds => some (ds, S1)
    | .lst _ ds => some (ds, S1)
    | .str s => some (s.cps.toList.map fun c => .str ⟨#[c]⟩, S1)
    | .loc n => (match S1[n]? with
      | some (.frz (.lst _ ds)) => some (ds, S1)
      | _ => none)
    | _ => none)
  | none => none
theorem walks_list {F : Fm} {a : Addr} {ds : List DV} (h : ∀ F' S H, Wk F F' → Rep F' S H → ∃ xs, SqL F.K H a xs ∧ RelL F' ds xs) : Walks (Itl F.K a) F ds := fun i F' S H w _ R => by
  obtain ⟨xs, hs, rl⟩ := h F' S H w R
  refine ⟨fun e => ⟨xs, hs, by rw [e, rl.length]; exact Nat.le_refl _⟩, fun d hd => ?_⟩
  obtain ⟨x, hx, rx⟩ := rl.get hd
  refine ⟨⟨xs, x, hs, hx⟩, fun y H' yl => ?_⟩
  obtain ⟨rfl, y2⟩ := yl
  have e := (y2 xs hs).symm.trans hx
  cases e
  exact ⟨F', .refl F', R, rx⟩
theorem walks_tup {F : Fm} {a : Addr} {ds : List DV} (h : ∀ F' S H, Wk F F' → Rep F' S H → ∃ xs, SqT F.K H a xs ∧ RelL F' ds xs) : Walks (Itt F.K a) F ds := fun i F' S H w _ R => by
  obtain ⟨xs, hs, rl⟩ := h F' S H w R
  refine ⟨fun e => ⟨xs, hs, by rw [e, rl.length]; exact Nat.le_refl _⟩, fun d hd => ?_⟩
  obtain ⟨x, hx, rx⟩ := rl.get hd
  refine ⟨⟨xs, x, hs, hx⟩, fun y H' yl => ?_⟩
  obtain ⟨rfl, y2⟩ := yl
  have e := (y2 xs hs).symm.trans hx
  cases e
  exact ⟨F', .refl F', R, rx⟩
theorem walks_str {F : Fm} {s : Str} : Walks (Its s) F (s.cps.toList.map fun c => .str ⟨#[c]⟩) := fun i F' S H w _ R => by
  refine ⟨fun e => ?_, fun d hd => ?_⟩
  · have : i = s.cps.size := by simpa using e
    show s.cps.size ≤ i
    omega
  · rw [List.getElem?_map] at hd
    cases e : s.cps.toList[i]? with
    | none =>
      rw [e] at hd
      cases hd
    | some c =>
      rw [e] at hd
      cases hd
      have e2 : s.cps[i]? = some c := by simpa using e
      refine ⟨(Array.getElem?_eq_some_iff.mp e2).1, fun x H' y => ?_⟩
      obtain ⟨rfl, c', h1, rfl⟩ := y
      rw [e2] at h1
      cases h1
      exact ⟨F', .refl F', R, rfl⟩
theorem walks_range {F : Fm} {lo : Int} {n : Nat} : Walks (Itr lo n) F ((List.range n).map fun i => .int (lo + (i : Nat))) := fun i F' S H w _ R => by
  refine ⟨fun e => ?_, fun d hd => ?_⟩
  · have : i = n := by simpa using e
    show n ≤ i
    omega
  · rw [List.getElem?_map] at hd
    cases e : (List.range n)[i]? with
    | none =>
      rw [e] at hd
      cases hd
    | some c =>
      rw [e] at hd
      cases hd
      obtain ⟨h1, h2⟩ := List.getElem?_eq_some_iff.mp e
      rw [List.getElem_range] at h2
      subst h2
      refine ⟨(by simpa using h1 : i < n), fun x H' y => ?_⟩
      obtain ⟨rfl, rfl⟩ := y
      exact ⟨F', .refl F', R, rfl⟩
theorem seq_src {F : Fm} {S : Sto} {H : Hp} {k : LK} {ds : List DV} {v : V} (R : Rep F S H) (rv : Rel F (.lst k ds) v) : ∃ a, v = .ref a ∧ (∃ xs, SqL F.K H a xs) ∧ Walks (Itl F.K a) F ds := by
  obtain ⟨a, xs, rfl, hs, _⟩ := rv.lstSq R
  refine ⟨a, rfl, ⟨xs, hs⟩, walks_list fun F' S' H' w R' => ?_⟩
  obtain ⟨a', xs', e, hs', rl'⟩ := (Rel.wk w _ _ rv).lstSq R'
  cases e
  rw [w.k] at hs'
  exact ⟨xs', hs', rl'⟩
theorem id_seq {tg : Expr} (h : ED X e f) : ID X tg e (iSeq f) :=
  .of (PI.or (pi_list h.pe) (PI.or (pi_tup h.pe) (pi_str h.pe))) fun F S H ρ σ ds S' Q hk R rr hf hq => by
    unfold iSeq at hf
    split at hf
    · rename_i x S1 h1
      split at hf
      · rename_i es
        cases hf
        refine .inr (.inl (rdE.go hk R rr h1 fun F1 H1 v le hk1 R1 r1 rv => ?_))
        obtain ⟨a, xs, rfl, hs, rl⟩ := rv
        rw [← hk1]
        refine ⟨a, rfl, ⟨xs, SqT.of (R1.g _ _ hs)⟩, hq _ F1 H1 le R1 (walks_tup fun F' S' H' w R' => ⟨xs, SqT.of (R'.g _ _ (w.g _ _ hs)), RelL.wk w _ _ rl⟩)⟩
      · rename_i es
        cases hf
        refine .inr (.inl (rdE.go hk R rr h1 fun F1 H1 v le hk1 R1 r1 rv => ?_))
        obtain ⟨a, xs, rfl, hs, rl⟩ := rv
        rw [← hk1]
        refine ⟨a, rfl, ⟨xs, sqT_same R1.g hs.t⟩, hq _ F1 H1 le R1 (walks_tup fun F' S' H' w R' => ⟨xs, sqT_same R'.g (sqT_same w.g hs.t), RelL.wk w _ _ rl⟩)⟩
      · rename_i k es
        cases hf
        refine .inl (rdE.go hk R rr h1 fun F1 H1 v le hk1 R1 r1 rv => ?_)
        obtain ⟨a, rfl, hs, hw⟩ := seq_src R1 rv
        rw [← hk1]
        exact ⟨a, rfl, hs, hq _ F1 H1 le R1 hw⟩
      · rename_i s
        cases hf
        refine .inr (.inr (rdE.go hk R rr h1 fun F1 H1 v le hk1 R1 r1 rv => ?_))
        exact ⟨s, rv, hq _ F1 H1 le R1 walks_str⟩
      · rename_i n
        split at hf
        · rename_i k es hc
          cases hf
          refine .inl (rdE.go hk R rr h1 fun F1 H1 v le hk1 R1 r1 rv => ?_)
          obtain ⟨a, ha, rfl⟩ := rv
          obtain ⟨rl, _⟩ := R1.cell n _ a hc ha
          obtain ⟨a', e, hs, hw⟩ := seq_src R1 (show Rel F1 (.lst k ds) (.ref a) from rl)
          cases e
          rw [← hk1]
          exact ⟨a, rfl, hs, hq _ F1 H1 le R1 hw⟩
        · cases hf
      · cases hf
    · cases hf
def rgD (lo : Int) (n : Nat) : List DV := (List.range n).map fun i => .int (lo + (i : Nat))
def iRange1 (f : DA) : DI := fun ρ S => match f ρ S with
  | some ([.int j], S1) => if j.natAbs < 4611686018427387904 then some (rgD 0 j.toNat, S1) else none
  | _ => none
theorem id_range1 {tg : Expr} {es : List Expr} (ha : AD X es fa) (h : ∀ {t : TA}, PA X es t → PI X tg e (iRng1 t)) : ID X tg e (iRange1 fa) :=
  .of (h ha.pa) fun F S H ρ σ ds S' Q hk R rr hf hq => by
    unfold iRange1 at hf
    split at hf
    · rename_i j S1 h1
      obtain ⟨hb, hf⟩ := of_ite hf
      cases hf
      refine rdA.go hk R rr h1 fun F1 H1 vs le hk1 R1 r1 rl => ?_
      obtain ⟨v, rfl, rv⟩ := one rl
      obtain rfl := (show v = .int j from rv)
      exact ⟨j, rfl, by omega, by omega, hq _ F1 H1 le R1 walks_range⟩
    · cases hf
def enD : Nat → List DV → List DV
  | _, [] => []
  | i, d :: ds => .tup [.int (i : Nat), d] :: enD (i + 1) ds
theorem enD_get : ∀ {ds : List DV} {k i : Nat}, (enD k ds)[i]? = (ds[i]?).map fun d => .tup [.int ((k + i : Nat) : Int), d]
  | [], k, i => by unfold enD; simp
  | d :: ds, k, 0 => by unfold enD; simp
  | d :: ds, k, i + 1 => by
    unfold enD
    rw [List.getElem?_cons_succ, List.getElem?_cons_succ, enD_get]
    have e : k + 1 + i = k + (i + 1) := by omega
    rw [e]
theorem enD_len : ∀ {ds : List DV} {k : Nat}, (enD k ds).length = ds.length
  | [], k => rfl
  | d :: ds, k => by
    unfold enD
    rw [List.length_cons, List.length_cons, enD_len]
def valL (S : Sto) : DV → Option (List DV)
  | .lst _ ds => some ds
  | .loc n => match S[n]? with
    | some (.frz (.lst _ ds)) => some ds
    | _ => none
  | _ => none
theorem valL_ok {F : Fm} {S : Sto} {H : Hp} {x : DV} {v : V} {ds : List DV} (R : Rep F S H) (r : Rel F x v) (h : valL S x = some ds) : ∃ k, Rel F (.lst k ds) v := by
  unfold valL at h
  split at h
  · rename_i k es
    cases h
    exact ⟨k, r⟩
  · rename_i n
    split at h
    · rename_i k es hc
      cases h
      obtain ⟨a, ha, rfl⟩ := r
      obtain ⟨rl, _⟩ := R.cell n _ a hc ha
      exact ⟨k, rl⟩
    · cases h
  · cases h
def iEnum (f : DA) : DI := fun ρ S => match f ρ S with
  | some ([x], S1) => (match valL S1 x with
    | some ds => some (enD 0 ds, S1)
    | none => none)
  | _ => none
theorem walks_enum {F : Fm} {a : Addr} {ds : List DV} (h : ∀ F' S H, Wk F F' → Rep F' S H → ∃ xs, SqL F.K H a xs ∧ RelL F' ds xs) : Walks (Ite F.K a) F (enD 0 ds) := fun i F' S H w _ R => by
  obtain ⟨xs, hs, rl⟩ := h F' S H w R
  refine ⟨fun e => ⟨xs, hs, by rw [e, enD_len, rl.length]; exact Nat.le_refl _⟩, fun d hd => ?_⟩
  rw [enD_get] at hd
  cases hd0 : ds[i]? with
  | none =>
    rw [hd0] at hd
    cases hd
  | some d0 =>
    rw [hd0] at hd
    cases hd
    obtain ⟨x, hx, rx⟩ := rl.get hd0
    refine ⟨⟨xs, x, hs, hx⟩, fun y H' yl => ?_⟩
    obtain ⟨T, x', rfl, hT, rfl, hy⟩ := yl
    have e := (hy xs hs).symm.trans hx
    cases e
    obtain ⟨R', le⟩ := R.add (o := .tup [.int (i : Nat), x]) hT
    exact ⟨_, le, R', T, _, rfl, upd_same, .cons (by rw [Nat.zero_add]; exact rfl) (.cons (rx.le le) rfl)⟩
end
end Dn

namespace Dn
open PySem PySem.Spec PyProof.Rows L2

/-! ### a def that is ready to be called -/
structure FnC (P : Program) (w : World) (K : PySem.W.Frag) (mg : Str → Option Value) (base : Heap) (x : Str) (k : Nat) (ps : List Str) (dvs : List V) (f : PL) : Prop where
  ex : ∃ (a : Addr) (fd : FuncData) (ds : List Value), mg x = some (.ref a) ∧ FnOk P w K mg base CX0 k a fd ps (spS K ps.length f) ∧ PySem.W.keepIn K (.ref a) = true ∧ Binds K fd ps ds ∧ Vals dvs ds
theorem tupN_ok {K : PySem.W.Frag} {x : Str} {vs : List He.Dv} (h : tupN K x vs = true) (H : Hp) : SqN K H (He.ga K x) (vs.map (He.Dv.v K)) := by
  unfold tupN at h
  cases q : K.lookup (He.ga K x) with
  | none =>
    rw [q] at h
    cases h
  | some o =>
    obtain ⟨oc, od, dt, osl⟩ := o
    rw [q] at h
    cases oc with
    | type c =>
      cases od with
      | some dd => cases h
      | none =>
        cases dt with
        | seq its n =>
          obtain ⟨h1, h2⟩ := Bool.and_eq_true_iff.mp (show (decide (c = "tuple") && (decide (its.size ≤ PySem.sizeLine) && He.relAll (vs.map (He.Dv.v K)) its.toList)) = true from h)
          obtain ⟨h3, h4⟩ := Bool.and_eq_true_iff.mp h2
          have ec := of_decide_eq_true h1
          subst ec
          exact ⟨_, its, n, .inr ⟨q, of_decide_eq_true h3⟩, rfl, rfl, rfl, He.relAll_ok h4⟩
        | _ => cases h
    | _ => cases h

section
variable {X : Cx} {x : Str} {k j : Nat} {ps : List Str} {dvs : List V} {f : PL} {dds : List DV} {p pos : Pos} {e a b : Expr} {es : List Expr} {fa : DA}
theorem FnC.pe (C : FnC X.prog X.w X.K X.mg X.base x k ps dvs f) (hr : Room j X.A) (hj : k ≤ j) (hg : Gl X x) {t : TA} (ha : PA X (e :: es) t) (hdb : (x == ("__debug__" : Str)) = false := by decide)
    (he : starEach (e :: es) X.env = (false, eval e X.env) :: starEach es X.env := by rfl) (hpl : (backTo pos (starEach es X.env)).any (·.1) = false := by rfl) :
    PE X (.Call (.Name x p) (e :: es) [] pos) (tCall (spS X.K ps.length f) dvs E0 t) := by
  obtain ⟨a, fd, ds, h1, h2, h3, h4, h5⟩ := C.ex
  exact pe_call h2 (hr.mono hj) hg h1 h3 h4 h5 pass0 ha hdb he hpl
theorem ed_callS (C : FnC X.prog X.w X.K X.mg X.base x k ps dvs (runF np n b0)) (hn : ps.length = np) (hr : Room j X.A) (hj : k ≤ j) (hg : Gl X x) (hd : ∀ F : Fm, RelL F dds dvs) (ha : AD X (e :: es) fa) (hdb : (x == ("__debug__" : Str)) = false := by decide)
    (he : starEach (e :: es) X.env = (false, eval e X.env) :: starEach es X.env := by rfl) (hpl : (backTo pos (starEach es X.env)).any (·.1) = false := by rfl) :
    ED X (.Call (.Name x p) (e :: es) [] pos) (dPrim (cS (runF np n b0) dds) fa) := by
  subst hn
  exact ed_call (fun {t} ha => C.pe hr hj hg ha hdb he hpl) (ok_cS hd runF_len) ha
theorem ed_callP (C : FnC X.prog X.w X.K X.mg X.base x k ps dvs (runF np n b0)) (hn : ps.length = np) (hr : Room j X.A) (hj : k ≤ j) (hg : Gl X x) (hd : ∀ F : Fm, RelL F dds dvs) (ha : AD X (e :: es) fa) (hdb : (x == ("__debug__" : Str)) = false := by decide)
    (he : starEach (e :: es) X.env = (false, eval e X.env) :: starEach es X.env := by rfl) (hpl : (backTo pos (starEach es X.env)).any (·.1) = false := by rfl) :
    ED X (.Call (.Name x p) (e :: es) [] pos) (dPrim (cP (pureOf (runF np n b0)) dds) fa) := by
  subst hn
  exact ed_call (fun {t} ha => C.pe hr hj hg ha hdb he hpl) (ok_cP hd runF_len) ha
theorem dd0 (F : Fm) : RelL F [] [] := rfl
theorem FnC.of {P : Program} {w : World} {K : PySem.W.Frag} {mg : Str → Option Value} {base : Heap} {a : Addr} {fd : FuncData} {qual : Str} {params : Arguments} {body : List Stmt} {scope : Scope}
    (F : FunD K x qual params body scope [] [] a fd) (hm : mg x = some (.ref a)) (h : FnOk P w K mg base CX0 k a fd ps (spS K ps.length f))
    (hb : ∀ (kV doc pm : Value) (an : Option Addr) (cdv ct : Value) (us : List Value), us.length = ps.length → bindArgs (PySem.W.fnOf x qual params body scope .none kV doc pm an cdv ct) ⟨us, []⟩ = pure (ps.zip us)) : FnC P w K mg base x k ps [] f :=
  ⟨a, fd, [], hm, h, F.kp, F.bindsN hb, .nil⟩

/-! ### names of the module -/
def dvD : He.Dv → DV
  | .bl b => .bl b
  | .int i => .int i
  | .str s => .str s
  | _ => .non
def dvOk : He.Dv → Bool
  | .non => true
  | .bl _ => true
  | .int _ => true
  | .str _ => true
  | _ => false
theorem dvD_rel {K : PySem.W.Frag} {F : Fm} : ∀ {vs : List He.Dv}, vs.all dvOk = true → RelL F (vs.map dvD) (vs.map (He.Dv.v K))
  | [], _ => rfl
  | v :: vs, h => by
    rw [List.all_cons] at h
    obtain ⟨h1, h2⟩ := Bool.and_eq_true_iff.mp h
    refine ⟨_, _, rfl, ?_, dvD_rel h2⟩
    cases v <;> first | exact rfl | cases h1
theorem ed_kint {i : Int} (h : ∃ t, X.mg x = some (.int i t)) (hg : Gl X x := by rfl) (hd : (x == ("__debug__" : Str)) = false := by decide) : ED X (.Name x pos) (dC (.int i)) := by
  obtain ⟨t, h⟩ := h
  exact ed_c (pe_glob (v := .int i) hg h ⟨t, rfl⟩ hd) fun _ => rfl
theorem ed_kstr {i : Str} (h : ∃ t, X.mg x = some (.str i t)) (hg : Gl X x := by rfl) (hd : (x == ("__debug__" : Str)) = false := by decide) : ED X (.Name x pos) (dC (.str i)) := by
  obtain ⟨t, h⟩ := h
  exact ed_c (pe_glob (v := .str i) hg h ⟨t, rfl⟩ hd) fun _ => rfl
theorem ed_ktup {vs : List He.Dv} (h : X.mg x = some (.ref (He.ga X.K x))) (ht : tupN X.K x vs = true) (ho : vs.all dvOk = true := by decide) (hg : Gl X x := by rfl) (hd : (x == ("__debug__" : Str)) = false := by decide) : ED X (.Name x pos) (dC (.tupx (vs.map dvD))) :=
  .of (pe_glob (v := .ref (He.ga X.K x)) hg h rfl hd) fun F S H ρ σ d S' Q hk R rr hf hq => by
    cases (show some (DV.tupx (vs.map dvD), S) = some (d, S') from hf)
    exact hq F H _ (.refl F) R ⟨_, _, rfl, by rw [hk]; exact tupN_ok ht _, dvD_rel ho⟩

/-! ### built-in calls in short -/
structure TB (mg : Str → Option Value) : Prop where
  len : mg "len" = none
  isinstance : mg "isinstance" = none
  range : mg "range" = none
  enumerate : mg "enumerate" = none
  list : mg "list" = none
  tuple : mg "tuple" = none
  str : mg "str" = none
  int : mg "int" = none
  max : mg "max" = none
  min : mg "min" = none
  sum : mg "sum" = none
  any : mg "any" = none
  all : mg "all" = none
  sorted : mg "sorted" = none
  set : mg "set" = none
  reversed : mg "reversed" = none
  bool : mg "bool" = none
  dict : mg "dict" = none
  zip : mg "zip" = none
  ve : mg "ValueError" = none
theorem tb_of {K : PySem.W.Frag} {h : Heap} {mg : Str → Option Value} (X : K.In h) (G : h.Ns mainGlobals mg) (c : ∀ f ∈ frees, f.ok K = true) : TB mg := by
  have g : ∀ {x : Str}, He.Fa.free x ∈ frees → mg x = none := fun {x} hx => He.free_ok X G (c _ hx)
  have m : ∀ (i : Nat) {x : Str}, frees[i]? = some (He.Fa.free x) → mg x = none := fun i {x} e => g (List.mem_of_getElem? e)
  exact ⟨m 0 rfl, m 1 rfl, m 2 rfl, m 3 rfl, m 4 rfl, m 5 rfl, m 6 rfl, m 7 rfl, m 8 rfl, m 9 rfl, m 10 rfl, m 11 rfl, m 12 rfl, m 13 rfl, m 14 rfl, m 15 rfl, m 16 rfl, m 17 rfl, m 18 rfl, m 19 rfl⟩
section
theorem e_isi {T7 : Ty7} {e1 : Expr} {f : DE} {p1 p2 : Pos} (T : TB X.mg) (hm : X.mg (Str.ofString T7.name) = none) (hT : T7 ≠ .non) (hg : Gl X "isinstance") (hg2 : Gl X (Str.ofString T7.name)) (hb : bootBuiltins (Str.ofString T7.name) = some (.type T7.name))
    (hx : ED X e1 f) (hn : Str.ofString T7.name ≠ "__name__" := by decide) (hd : (Str.ofString T7.name == ("__debug__" : Str)) = false := by decide)
    (h1 : starEach [e1, .Name (Str.ofString T7.name) p2] X.env = (false, eval e1 X.env) :: starEach [.Name (Str.ofString T7.name) p2] X.env := by rfl)
    (hpl : (backTo pos (starEach [.Name (Str.ofString T7.name) p2] X.env)).any (·.1) = false := by rfl) :
    ED X (.Call (.Name "isinstance" p1) [e1, .Name (Str.ofString T7.name) p2] [] pos) (dIsi T7 f) :=
  ed_isi hT hx fun h => pe_callB call_isi hg T.isinstance boot_isinstance (pa_cons h (pa_cons (pe_bltn hg2 hm hb rfl hn hd) pa_nil) h1) (he := h1) (hpl := hpl)
end
end
theorem call_tupAll {X : Cx} : CallR X (.type "tuple") (rTupAll X.K) := call_tuple_of
/-! ### targets in short -/
section
variable {X : Cx} {e : Expr} {es : List Expr}
theorem gds_c {g : DG} {h : DGs} (h1 : GD X e g) (h2 : GDs X es h) (ha : (assignEach (e :: es) X.env).map (·.2) = assign e X.env :: (assignEach es X.env).map (·.2) := by rfl) : GDs X (e :: es) (gsCons g h) := gds_cons (t := rdG X.K g) (u := rdGs X.K h) h1 h2 (pgs_cons h1.pg h2.pg ha)
theorem gd_t {h : DGs} {k n : Nat} {pos : Pos} (hc : X.calm = true) (h2 : GDs X es h) (hn : (assignEach es X.env).length = n := by rfl) (hst : (assignEach es X.env).findIdx? (·.1) = none := by rfl) : GD X (.Tuple es k pos) (gTupD n h) := gd_tup h2 (pg_tup hc h2.pg hn hst)
end
/-! ### the head -/
structure Facts (fa : List He.Fa) (fn : List He.DefD) (ex : PySem.W.Frag → Bool) (K : PySem.W.Frag) (mg : Str → Option Value) : Prop where
  h : ∃ h : Heap, K.In h ∧ h.Ns mainGlobals mg
  c : He.SaysD fa fn K
  e : ex K = true
section
variable {fa : List He.Fa} {fn : List He.DefD} {ex : PySem.W.Frag → Bool} {K : PySem.W.Frag} {mg : Str → Option Value}
theorem Facts.glo (Y : Facts fa fn ex K mg) (i : Nat) {x : Str} (h : fa[i]? = some (.glo x) := by rfl) : mg x = some (.ref (He.ga K x)) := by
  obtain ⟨hp, X, G⟩ := Y.h
  exact He.glo_ok X G (Y.c.fact i h)
theorem Facts.int (Y : Facts fa fn ex K mg) (i : Nat) {x : Str} {k : Int} (h : fa[i]? = some (.int x k) := by rfl) : ∃ t, mg x = some (.int k t) := by
  obtain ⟨hp, X, G⟩ := Y.h
  exact He.int_ok X G (Y.c.fact i h)
theorem Facts.str (Y : Facts fa fn ex K mg) (i : Nat) {x k : Str} (h : fa[i]? = some (.str x k) := by rfl) : ∃ t, mg x = some (.str k t) := by
  obtain ⟨hp, X, G⟩ := Y.h
  exact He.str_ok X G (Y.c.fact i h)
theorem Facts.tb0 (Y : Facts fa fn ex K mg) (hl : ∃ l, fa = l ++ frees) : TB mg := by
  obtain ⟨hp, X, G⟩ := Y.h
  obtain ⟨l, rfl⟩ := hl
  refine tb_of X G fun f hf => ?_
  obtain ⟨i, hi⟩ := List.mem_iff_getElem?.mp (List.mem_append_right l hf)
  exact Y.c.fact i hi
end
/-- the law's promise off its mathematics -/
theorem spS_law {K : PySem.W.Frag} {f : PL} {H : Hp} {a : Addr} {ns : List Int} {E : XK} (hS : SqL K H a (ns.map V.int)) (h : ∃ S', f [.lst .ext (ns.map DV.int)] [] = some (.bl true, S')) : spS K 1 f [.ref a] H (fun v _ => v = .bl true) E := by
  obtain ⟨S', h⟩ := h
  refine ⟨⟨K, H, fun _ => none, fun _ => none, []⟩, [], [.lst .ext (ns.map DV.int)], .bl true, S', rfl, ⟨Same.refl _, (fun _ _ q => nomatch q), (fun _ _ q => nomatch q), fun _ _ e => e, rfl, fun n c a h _ => by simp at h, fun n m c c' a h => by simp at h⟩, rel1 ⟨a, _, rfl, hS, ints_rel _⟩, rfl, h, fun F' H' v le R' rv => rv⟩
end Dn

namespace Dn
open PySem PySem.Spec PyProof.Rows L2

/-! ### the laws' mathematics: evaluating denotations -/
mutual
/-- a value without cells and borrowed parts -/
def plain : DV → Bool
  | .loc _ => false
  | .tup ds => plainL ds
  | .tupx ds => plainL ds
  | .lst k ds => (match k with | .bor => false | _ => true) && plainL ds
  | .dik k _ ds => (match k with | .own => true | _ => false) && plainL ds
  | .dit k _ ds => (match k with | .own => true | _ => false) && plainL ds
  | _ => true
def plainL : List DV → Bool
  | [] => true
  | d :: ds => plain d && plainL ds
end
mutual
theorem mapD_plain {b : Bool} {h : Nat → Option DV} : ∀ {d : DV}, plain d = true → mapD b h d = some d
  | .loc _, e => by cases e
  | .non, _ => rfl
  | .bl _, _ => rfl
  | .int _, _ => rfl
  | .str _, _ => rfl
  | .tup ds, e => by
    unfold mapD
    rw [mapDL_plain (d := ds) e]
  | .tupx ds, e => by
    unfold mapD
    rw [mapDL_plain (d := ds) e]
  | .lst k ds, e => by
    unfold plain at e
    obtain ⟨e1, e2⟩ := Bool.and_eq_true_iff.mp e
    unfold mapD
    rw [mapDL_plain e2]
    cases k with
    | bor => cases e1
    | own => rfl
    | ext => rfl
  | .dik k ks ds, e => by
    unfold plain at e
    obtain ⟨e1, e2⟩ := Bool.and_eq_true_iff.mp e
    unfold mapD
    rw [mapDL_plain e2]
    cases k with
    | bor => cases e1
    | own => rfl
    | ext => cases e1
  | .dit k ks ds, e => by
    unfold plain at e
    obtain ⟨e1, e2⟩ := Bool.and_eq_true_iff.mp e
    unfold mapD
    rw [mapDL_plain e2]
    cases k with
    | bor => cases e1
    | own => rfl
    | ext => cases e1
theorem mapDL_plain {b : Bool} {h : Nat → Option DV} : ∀ {d : List DV}, plainL d = true → mapDL b h d = some d
  | [], _ => rfl
  | d :: ds, e => by
    unfold plainL at e
    obtain ⟨e1, e2⟩ := Bool.and_eq_true_iff.mp e
    unfold mapDL
    rw [mapD_plain e1, mapDL_plain e2]
end
theorem cpD_plain {b : Bool} {S : Sto} {d : DV} (h : plain d = true) : cpD b S d = some d := mapD_plain h
theorem cpL_plain {b : Bool} {S : Sto} {d : List DV} (h : plainL d = true) : cpL b S d = some d := mapDL_plain h
section
variable {b : Bool} {x : Str} {i : Int} {ds : List DV} {d : DV}
@[simp] theorem plain_non : plain .non = true := (rfl)
@[simp] theorem plain_bl : plain (.bl b) = true := (rfl)
@[simp] theorem plain_int : plain (.int i) = true := (rfl)
@[simp] theorem plain_str : plain (.str x) = true := (rfl)
@[simp] theorem plain_tup : plain (.tup ds) = plainL ds := (rfl)
@[simp] theorem plain_tupx : plain (.tupx ds) = plainL ds := (rfl)
@[simp] theorem plain_own : plain (.lst .own ds) = plainL ds := by simp [plain]
@[simp] theorem plain_ext : plain (.lst .ext ds) = plainL ds := by simp [plain]
@[simp] theorem plainL_nil : plainL [] = true := (rfl)
@[simp] theorem plainL_cons : plainL (d :: ds) = (plain d && plainL ds) := (rfl)
theorem plainL_iff : ∀ {ds : List DV}, plainL ds = true ↔ ∀ d ∈ ds, plain d = true
  | [] => by simp
  | d :: ds => by simp [plainL_iff (ds := ds)]
@[simp] theorem plainL_app {a b : List DV} : plainL (a ++ b) = (plainL a && plainL b) := by
  induction a with
  | nil => simp
  | cons x r ih => simp [ih, Bool.and_assoc]
@[simp] theorem plainL_ints {ns : List Int} : plainL (ns.map DV.int) = true := plainL_iff.mpr fun d h => by
  obtain ⟨i, _, rfl⟩ := List.mem_map.mp h
  rfl
@[simp] theorem plainL_strs {ns : List Str} : plainL (ns.map DV.str) = true := plainL_iff.mpr fun d h => by
  obtain ⟨i, _, rfl⟩ := List.mem_map.mp h
  rfl
end
/-- a cell's copy -/
theorem cpD_loc {b : Bool} {S : Sto} {n : Nat} {ds : List DV} (h : S[n]? = some (.lst ds)) (hp : plainL ds = true) : cpD b S (.loc n) = some (.lst (bk b) ds) := by
  show cpN b (S.length + 1) S n = _
  unfold cpN
  simp only [h, mapDL_plain hp]
theorem pureOf_of {f : PL} {ds : List DV} {d : DV} {S' : Sto} (h : f ds [] = some (d, S')) (hp : plain d = true) : pureOf f ds = some d := by
  unfold pureOf
  rw [h]
  exact cpD_plain hp
theorem pureOf_loc {f : PL} {ds es : List DV} {n : Nat} {S' : Sto} (h : f ds [] = some (.loc n, S')) (hn : S'[n]? = some (.lst es)) (hp : plainL es = true) : pureOf f ds = some (.lst .own es) := by
  unfold pureOf
  rw [h]
  exact cpD_loc hn hp
section
variable {f g h : DE} {fa : DA} {s t : DS} {p : P2} {ρ : Ev} {S : Sto} {i : Nat} {d : DV} {pl : PL} {pf : List DV → Option DV} {xs : List DV}
@[simp] theorem v_var : dVar i ρ S = (match ρ[i]? with | some (some d) => some (d, S) | _ => none) := (rfl)
@[simp] theorem v_c : dC d ρ S = some (d, S) := (rfl)
@[simp] theorem v_un {p : P1} : dUn p f ρ S = (match f ρ S with | some (x, S1) => p x S1 | none => none) := (rfl)
@[simp] theorem v_bin : dBin p f g ρ S = (match f ρ S with | some (x, S1) => (match g ρ S1 with | some (y, S2) => p x y S2 | none => none) | none => none) := (rfl)
@[simp] theorem v_and : dAnd f g ρ S = (match f ρ S with | some (.bl true, S1) => g ρ S1 | some (.bl false, S1) => some (.bl false, S1) | _ => none) := (rfl)
@[simp] theorem v_or : dOr f g ρ S = (match f ρ S with | some (.bl true, S1) => some (.bl true, S1) | some (.bl false, S1) => g ρ S1 | _ => none) := (rfl)
@[simp] theorem v_not : dNot f ρ S = (match f ρ S with | some (.bl c, S1) => some (.bl (!c), S1) | _ => none) := (rfl)
@[simp] theorem v_if : dIf h f g ρ S = (match h ρ S with | some (.bl true, S1) => f ρ S1 | some (.bl false, S1) => g ρ S1 | _ => none) := (rfl)
@[simp] theorem v_nil : aNil ρ S = some ([], S) := (rfl)
@[simp] theorem v_cons : aCons f fa ρ S = (match f ρ S with | some (x, S1) => (match fa ρ S1 with | some (xs, S2) => some (x :: xs, S2) | none => none) | none => none) := (rfl)
@[simp] theorem v_prim : dPrim pl fa ρ S = (match fa ρ S with | some (xs, S1) => pl xs S1 | none => none) := (rfl)
@[simp] theorem v_next : dNext ρ S = some (.nx ρ S) := (rfl)
@[simp] theorem v_seq : dSeq s t ρ S = (match s ρ S with | some (.nx ρ' S') => t ρ' S' | o => o) := (rfl)
@[simp] theorem v_break : dBreak ρ S = some (.bk ρ S) := (rfl)
@[simp] theorem v_cont : dCont ρ S = some (.ct ρ S) := (rfl)
@[simp] theorem v_expr : dExpr f ρ S = (match f ρ S with | some (_, S') => some (.nx ρ S') | none => none) := (rfl)
@[simp] theorem v_ret : dRet f ρ S = (match f ρ S with | some (d, S') => some (.rt d S') | none => none) := (rfl)
@[simp] theorem v_retN : dRetN ρ S = some (.rt .non S) := (rfl)
@[simp] theorem v_ifS : dIfS f s t ρ S = (match f ρ S with | some (.bl true, S1) => s ρ S1 | some (.bl false, S1) => t ρ S1 | _ => none) := (rfl)
@[simp] theorem v_gset : gSet i d ρ S = some (ρ.set i (some d), S) := (rfl)
@[simp] theorem v_set : dSet i f ρ S = (match f ρ S with | some (d, S1) => some (.nx (ρ.set i (some d)) S1) | none => none) := (rfl)
@[simp] theorem v_isi {T : Ty7} : dIsi T f ρ S = (match f ρ S with | some (x, S1) => (match tyD S1 x with | some t => some (.bl (isT t T), S1) | none => none) | none => none) := (rfl)
@[simp] theorem v_for {it : DI} {gt : DG} : dFor it gt s ρ S = (match it ρ S with | some (ds, S1) => forL gt s ds ρ S1 | none => none) := (rfl)
@[simp] theorem v_aug : dAug i p f ρ S = (match ρ[i]? with | some (some x) => (match f ρ S with | some (y, S1) => (match p x y S1 with | some (d, S2) => some (.nx (ρ.set i (some d)) S2) | none => none) | none => none) | _ => none) := (rfl)
@[simp] theorem cP_eq : cP pf [] xs S = (match cpL true S xs with | some ys => (match pf ys with | some d => some (d, S) | none => none) | none => none) := by
  unfold cP
  rw [List.append_nil] <;> rfl
@[simp] theorem cM_eq {pm : List DV → Option (List DV)} : cM pm [] xs S = (match cpL true S xs with | some ys => (match pm ys with | some es => some (.loc S.length, S ++ [.lst es]) | none => none) | none => none) := by
  unfold cM
  rw [List.append_nil] <;> rfl
@[simp] theorem v_subI {a b : Int} : pSub (.int a) (.int b) S = some (.int (a - b), S) := (rfl)
@[simp] theorem v_addI {a b : Int} : pAdd (.int a) (.int b) S = some (.int (a + b), S) := (rfl)
@[simp] theorem v_addI2 {a b : Int} : pAddI (.int a) (.int b) S = some (.int (a + b), S) := (rfl)
@[simp] theorem v_andI {a b : Int} : pAnd (.int a) (.int b) S = some (.int (Builtin.bitAnd a b), S) := (rfl)
@[simp] theorem v_orI {a b : Int} : pOr (.int a) (.int b) S = some (.int (Builtin.bitOr a b), S) := (rfl)
@[simp] theorem v_xorI {a b : Int} : pXor (.int a) (.int b) S = some (.int (Builtin.bitXor a b), S) := (rfl)
@[simp] theorem v_neg {a : Int} : pNeg (.int a) S = some (.int (-a), S) := (rfl)
theorem v_modI {a b : Int} (h : 0 < b) : pMod (.int a) (.int b) S = some (.int (a % b), S) := by
  show (match gMod a b with | some k => some (DV.int k, S) | none => none) = _
  unfold gMod
  rw [if_pos h]
theorem v_mulI {a b : Int} (h : -18446744073709551616 < b ∧ b < 18446744073709551616) : pMul (.int a) (.int b) S = some (.int (a * b), S) := by
  show (match gMul a b with | some k => some (DV.int k, S) | none => none) = _
  unfold gMul
  rw [if_pos (.inl (.inr (by omega)))]
theorem v_mulIl {a b : Int} (h : -18446744073709551616 < a ∧ a < 18446744073709551616) : pMul (.int a) (.int b) S = some (.int (a * b), S) := by
  show (match gMul a b with | some k => some (DV.int k, S) | none => none) = _
  unfold gMul
  rw [if_pos (.inl (.inl (by omega)))]
@[simp] theorem v_addL {k l : LK} {xs ys : List DV} (hk : k ≠ .ext := by decide) (hl : l ≠ .ext := by decide) : pAdd (.lst k xs) (.lst l ys) S = (if xs.length + ys.length ≤ sizeLine then some (.lst .own (xs ++ ys), S) else none) := by
  cases k <;> cases l <;> first | rfl | exact absurd rfl hk | exact absurd rfl hl
@[simp] theorem v_addS {a b : Str} : pAdd (.str a) (.str b) S = (if a.length + b.length ≤ sizeLine then some (.str (a ++ b), S) else none) := (rfl)
@[simp] theorem v_addT {xs ys : List DV} : pAdd (.tup xs) (.tup ys) S = (if xs.length + ys.length ≤ sizeLine then some (.tup (xs ++ ys), S) else none) := (rfl)
@[simp] theorem v_pLst {xs : List DV} : pLst xs S = (if xs.length ≤ sizeLine then some (.lst .own xs, S) else none) := (rfl)
@[simp] theorem v_pLstM {xs : List DV} : pLstM xs S = (if xs.length ≤ sizeLine then some (.loc S.length, S ++ [.lst xs]) else none) := (rfl)
@[simp] theorem v_pTup {xs : List DV} : pTup xs S = (if xs.length ≤ sizeLine then some (.tup xs, S) else none) := (rfl)
@[simp] theorem size_eq : sizeLine = 16777216 := (rfl)
@[simp] theorem v_lt {a b : Int} : pLt (.int a) (.int b) S = some (.bl (decide (a < b)), S) := (rfl)
@[simp] theorem v_le {a b : Int} : pLe (.int a) (.int b) S = some (.bl (decide (a ≤ b)), S) := (rfl)
@[simp] theorem v_gt {a b : Int} : pGt (.int a) (.int b) S = some (.bl (decide (b < a)), S) := (rfl)
@[simp] theorem v_ge {a b : Int} : pGe (.int a) (.int b) S = some (.bl (decide (b ≤ a)), S) := (rfl)
@[simp] theorem v_eqI {a b : Int} : pEq false (.int a) (.int b) S = some (.bl (decide (a = b)), S) := (rfl)
@[simp] theorem v_neI {a b : Int} : pEq true (.int a) (.int b) S = some (.bl (!decide (a = b)), S) := (rfl)
@[simp] theorem v_eqS {a b : Str} : pEq false (.str a) (.str b) S = some (.bl (decide (a = b)), S) := (rfl)
@[simp] theorem v_neS {a b : Str} : pEq true (.str a) (.str b) S = some (.bl (!decide (a = b)), S) := (rfl)
@[simp] theorem v_isN : pIs false d .non S = some (.bl (isNon d), S) := (rfl)
@[simp] theorem v_isnN : pIs true d .non S = some (.bl (!isNon d), S) := (rfl)
end
@[simp] theorem isNon_int {i : Int} : isNon (.int i) = false := (rfl)
@[simp] theorem isNon_str {i : Str} : isNon (.str i) = false := (rfl)
@[simp] theorem isNon_non : isNon .non = true := (rfl)
@[simp] theorem isNon_loc {n : Nat} : isNon (.loc n) = false := (rfl)
section
variable {f : DE} {ρ : Ev} {S : Sto}
@[simp] theorem iSeq_eq : iSeq f ρ S = (match f ρ S with | some (x, S1) => (match x with | .tup ds => some (ds, S1) | .tupx ds => some (ds, S1) | .lst _ ds => some (ds, S1) | .str s => some (s.cps.toList.map fun c => .str ⟨#[c]⟩, S1) | .loc n => (match S1[n]? with | some (.frz (.lst _ ds)) => some (ds, S1) | _ => none) | _ => none) | none => none) := (rfl)
end
/-! ### places -/
theorem ixN_nat {n k : Nat} (h : k < n) : ixN n (k : Int) = some k := by
  unfold ixN
  rw [if_pos (by omega), if_pos (by omega), Int.toNat_natCast]
section
variable {S : Sto} {ds : List DV} {i : Int} {d : DV}
theorem ix_seq {k : LK} (h : atD ds i = some d) : pIx (.lst k ds) (.int i) S = some (d, S) := by
  show (match atD ds i with | some d => some (d, S) | none => none) = _
  rw [h]
theorem ix_tup (h : atD ds i = some d) : pIx (.tup ds) (.int i) S = some (d, S) := by
  show (match atD ds i with | some d => some (d, S) | none => none) = _
  rw [h]
theorem ix_loc {n : Nat} (hn : S[n]? = some (.lst ds)) (h : atD ds i = some d) : pIx (.loc n) (.int i) S = some (d, S) := by
  show (match asL S (.loc n) with | some ds => (match atD ds i with | some d => some (d, S) | none => none) | none => _) = _
  unfold asL
  simp only [hn, h]
theorem ix_str {s : Str} {c : Nat} (hl : s.length ≤ sizeLine) (h : atI s.cps.toList i = some c) : pIx (.str s) (.int i) S = some (.str ⟨#[c]⟩, S) := by
  show (if s.length ≤ sizeLine then (match atI s.cps.toList i with | some c => some (DV.str ⟨#[c]⟩, S) | none => none) else none) = _
  rw [if_pos hl, h]
theorem atD_nat {k : Nat} (h : ds[k]? = some d) : atD ds (k : Int) = some d := by
  unfold atD
  rw [ixN_nat (List.getElem?_eq_some_iff.mp h).1]
  exact h
end

/-! ### comprehensions and loops -/
inductive All2 {α β : Type} (P : α → β → Prop) : List α → List β → Prop where
  | nil : All2 P [] []
  | cons {a b as bs} (h : P a b) (t : All2 P as bs) : All2 P (a :: as) (b :: bs)
theorem lcR_of {it : DI} {g : DG} {c fe : DE} {vs : List Nat} {ρ : Ev} {S S1 S2 : Sto} {ds ys : List DV} (hi : it ρ S = some (ds, S1)) (hl : lcL g c fe (dwipe ρ vs) ds S1 = some (ys, S2)) (hz : ys.length ≤ sizeLine) : lcR it g c fe vs ρ S = some (ys, S2) := by
  unfold lcR
  simp only [hi, hl]
  rw [if_pos hz]
theorem dLc_of {it : DI} {g : DG} {c fe : DE} {vs : List Nat} {ρ : Ev} {S S1 S2 : Sto} {ds ys : List DV} (hi : it ρ S = some (ds, S1)) (hl : lcL g c fe (dwipe ρ vs) ds S1 = some (ys, S2)) (hz : ys.length ≤ sizeLine) : dLc it g c fe vs ρ S = some (.lst .own ys, S2) := by
  unfold dLc
  simp only [lcR_of hi hl hz]
theorem dLcM_of {it : DI} {g : DG} {c fe : DE} {vs : List Nat} {ρ : Ev} {S S1 S2 : Sto} {ds ys : List DV} (hi : it ρ S = some (ds, S1)) (hl : lcL g c fe (dwipe ρ vs) ds S1 = some (ys, S2)) (hz : ys.length ≤ sizeLine) : dLcM it g c fe vs ρ S = some (.loc S2.length, S2 ++ [.lst ys]) := by
  unfold dLcM
  simp only [lcR_of hi hl hz]
theorem size_ok {n : Nat} (h : n ≤ 1000000) : n ≤ sizeLine := Nat.le_trans h (by decide)
end Dn

namespace Dn
open PySem PySem.Spec PyProof.Rows L2
/-! ### texts of single signs -/
abbrev one1 (c : Nat) : Str := ⟨#[c]⟩
def txt (cs : List Nat) : Str := ⟨cs.toArray⟩
theorem joinL_nil : ∀ ls : List (List Nat), TL.joinL [] ls = ls.flatten
  | [] => rfl
  | [a] => by simp [TL.joinL]
  | a :: b :: r => by
    have ih := joinL_nil (b :: r)
    simp only [TL.joinL] at ih ⊢
    simp [ih]
theorem join_ones (cs : List Nat) : Txt.join "" (cs.map one1) = txt cs := by
  apply TL.ext_tl
  rw [TL.join_eq, TL.tl_join]
  show TL.joinL [] _ = cs
  rw [joinL_nil, List.map_map]
  induction cs with
  | nil => rfl
  | cons a r ih =>
    rw [List.map_cons, List.flatten_cons, ih]
    rfl
theorem strsD_map {α : Type} {f : α → Str} : ∀ {l : List α}, strsD (l.map fun a => .str (f a)) = some (l.map f)
  | [] => rfl
  | a :: l => by
    rw [List.map_cons, List.map_cons]
    unfold strsD
    rw [strsD_map]
theorem ones_sum : ∀ cs : List Nat, ((cs.map one1).map (·.length)).sum = cs.length
  | [] => rfl
  | a :: r => by
    rw [List.map_cons, List.map_cons, List.sum_cons, ones_sum r]
    show 1 + _ = _ + 1
    omega
def abc : Str := "abcdefghijklmnopqrstuvwxyz"
theorem abc_at : ∀ k < 26, atI abc.cps.toList (k : Nat) = some (97 + k) := by decide +kernel
theorem abc_ix {S : Sto} {i : Int} (h0 : 0 ≤ i) (h1 : i < 26) : pIx (.str "abcdefghijklmnopqrstuvwxyz") (.int i) S = some (.str (one1 (97 + i.toNat)), S) := by
  have e := abc_at i.toNat (by omega)
  rw [Int.toNat_of_nonneg h0] at e
  exact ix_str (s := abc) (by decide) e
theorem All2.mem {α β : Type} {P : α → β → Prop} : ∀ {as : List α} {bs : List β}, All2 P as bs → ∀ b ∈ bs, ∃ a ∈ as, P a b
  | _, _, .nil, b, h => by cases h
  | _, _, .cons h t, b, hb => by
    rcases List.mem_cons.mp hb with rfl | hb
    · exact ⟨_, List.mem_cons_self, h⟩
    · obtain ⟨a, h1, h2⟩ := All2.mem t b hb
      exact ⟨a, List.mem_cons_of_mem _ h1, h2⟩
theorem All2.len {α β : Type} {P : α → β → Prop} : ∀ {as : List α} {bs : List β}, All2 P as bs → as.length = bs.length
  | _, _, .nil => rfl
  | _, _, .cons h t => by rw [List.length_cons, List.length_cons, t.len]
/-! ### equal data -/
/-! ### lists of texts, each once -/
theorem get_lt {n : Nat} {S : Sto} {c : Cell} (h : S[n]? = some c) : n < S.length := (List.getElem?_eq_some_iff.mp h).1
end Dn

/-! enumerate over a tuple -/
namespace Dn
open PySem PySem.Spec PyProof.Rows L2
set_option maxHeartbeats 1000000 in
theorem meets_enum1 {v : Value} {o : Obj} {H : Heap → Prop} (B : Begins v o H) :
    Meets (Builtin.«enumerate.__new__» ⟨[.type "enumerate", v], []⟩) (fun _ R s => H s.heap ∧
      R (.ok (.ret (.ref (s.heap.push o).objs.size))) { s with heap := (s.heap.push o).push { cls := .type "enumerate", data := .fields #[.none, .bool false, .ref s.heap.objs.size, rawInt 0, .none, .none] } }) :=
  .of_wp fun prog w A R s h => by
    obtain ⟨hp, g, d, tk, os⟩ := s; obtain ⟨h1, h⟩ := h
    have hsub := sub_enumerate
    have q1 : ∀ {A' : Around} {E : Value → Shared → Prop} {Q : Value → Shared → Prop}, Q (.ref hp.objs.size) ⟨hp.push o, g, d, tk, os⟩ → wpAny (model prog w) A' (pyIter v) Q E ⟨hp, g, d, tk, os⟩ :=
      fun q => B.iter prog w _ _ ⟨hp, g, d, tk, os⟩ _ h1 q
    wp_walk using q1
    refine wpAny_stack_any fun st => wpAny_pure ?_
    split
    · rename_i c _ _ _ _ _
      cases (c == Value.type "enumerate")
      · wp_walk using q1
        exact ⟨_, rfl, h⟩
      · wp_walk using q1
        exact ⟨_, rfl, h⟩
    · wp_walk using q1
      exact ⟨_, rfl, h⟩
section
variable {prog : Program} {w : World} {A : Around} {E : Value → Shared → Prop} {s : Shared}
theorem call_enum1 {v : Value} {o : Obj} {H : Heap → Prop} {Q : Value → Shared → Prop} (B : Begins v o H) (h1 : H s.heap)
    (h : ∀ h', IsEnum h' (s.heap.objs.size + 1) s.heap.objs.size 0 .none → h'.get? s.heap.objs.size = some o → h'.objs.size = s.heap.objs.size + 2 →
      (∀ b o, s.heap.get? b = some o → h'.get? b = some o) → Q (.ref (s.heap.objs.size + 1)) { s with heap := h' }) :
    wpAny (model prog w) A (call (.type "enumerate") [v]) Q E s := by
  refine callType_new F.called_enumerate (by decide) (F.typeCall_enumerate_1 _) (F.newCall_enumerate_1 _) (fun obj => F.args_object_init_2 obj _) F.entry_enumerate_new
    (meets_enum1 B) ⟨h1, ?_⟩
  have hz : (s.heap.push o).objs.size = s.heap.objs.size + 1 := Heap.size_push ..
  show _ ∧ _
  rw [hz]
  have he : IsEnum ((s.heap.push o).push { cls := .type "enumerate", data := .fields #[.none, .bool false, .ref s.heap.objs.size, rawInt 0, .none, .none] }) (s.heap.objs.size + 1) s.heap.objs.size 0 .none := by
    have := Heap.get?_push_size (s.heap.push o) (o := { cls := .type "enumerate", data := .fields #[.none, .bool false, .ref s.heap.objs.size, rawInt 0, .none, .none] }) rfl
    rw [hz] at this; exact this
  refine ⟨⟨_, he, rfl⟩, h _ he (Heap.get?_push_of_some _ (Heap.get?_push_size _ B.free)) (by rw [Heap.size_push, hz]) fun b o x => Heap.get?_push_of_some _ (Heap.get?_push_of_some _ x)⟩
end
/-- the tuple at a, each item in a new pair -/
def Itet (K : PySem.W.Frag) (a : Addr) : It :=
  ⟨fun i H => ∃ (xs : List V) (x : V), SqT K H a xs ∧ xs[i]? = some x, fun i H v H' => ∃ T x, v = .ref T ∧ H T = none ∧ H' = upd H T (.tup [.int (i : Nat), x]) ∧ ∀ xs, SqT K H a xs → xs[i]? = some x, fun i H => ∃ xs : List V, SqT K H a xs ∧ xs.length ≤ i⟩
theorem turn_enumT {P : Program} {w : World} {K : PySem.W.Frag} {elts : List Expr} {kk : Nat} {tpos : Pos} (a e it : Addr) :
    Turn P w K (.Tuple elts kk tpos) (Itet K a) [e, it] e (fun i h => (∃ old, IsEnum h e it ((i : Nat) : Int) old) ∧ h.IsTupleIter it a i ∧ e ≠ it) where
  mem := by simp
  obj := fun i h st b hb => by
    obtain ⟨⟨old, he⟩, ⟨o, ho, hc, hd⟩, _⟩ := st
    have e' : b = e ∨ b = it := by simpa using hb
    rcases e' with z | z
    · rw [z]; exact ⟨_, he, fun v q => nomatch q⟩
    · rw [z]; exact ⟨o, ho, fun v q => by rw [hd] at q; cases q⟩
  keep := fun i h h' st k => let ⟨⟨old, he⟩, hi, hne⟩ := st; ⟨⟨old, k e (by simp) _ he⟩, hi.at fun o q => k it (by simp) o q, hne⟩
  item := by
    intro X hP hw hK hc i pins s σ H E I hf st hg
    subst hP hw hK
    obtain ⟨⟨old, he⟩, hit, hne⟩ := st
    obtain ⟨xs, x, hq, hx⟩ := hg
    obtain ⟨its, rv, p, hz⟩ := I.tuple hq
    obtain ⟨u, hu, ru⟩ := rv.get hx
    have hel : e < s.heap.objs.size := Heap.lt_size he
    have hil : it < s.heap.objs.size := by obtain ⟨_, q, _⟩ := hit; exact Heap.lt_size q
    have pt : s.heap.IsTuple a its.toArray := p
    have nai : a ≠ it := fun q => by
      obtain ⟨o1, h1, c1, _⟩ := pt
      obtain ⟨o2, h2, c2, _⟩ := id hit
      rw [q, h2] at h1
      cases h1
      rw [c2] at c1
      exact absurd c1 (by simp)
    have nae : a ≠ e := fun q => by
      obtain ⟨o1, h1, c1, _⟩ := pt
      rw [q, he] at h1
      cases h1
      exact absurd c1 (by simp)
    have hlt : i < its.toArray.size := by
      have := (List.getElem?_eq_some_iff.mp hu).1
      simpa using this
    refine wpAny_pyNext_enum_itemD (Draws.tuple (A := X.A.in1) (I.ok.hd hc) it a nai its.toArray) he ⟨hit, pt⟩ hlt hne (by simp [hne]; exact fun q => nae q.symm) fun x' h' tk hPx ho hst' hT hsz hk => ?_
    have ex' : x' = u := by
      have h2 : its.toArray[i]? = some x' := hPx
      have h3 : its.toArray[i]? = some u := by simpa using hu
      rw [h3] at h2
      exact (Option.some.inj h2).symm
    subst ex'
    refine ⟨_, rfl, wpAny_letOwnedTupleGo_enum (s := { s with heap := h', toks := tk + 1 }) ho fun h'' he' sb => ?_⟩
    have hT2 : h''.get? s.heap.objs.size = some { cls := .type "tuple", data := .seq #[.int i tk, x'] } := (sb.2 _ (Nat.ne_of_gt hel)).trans hT
    have new : ObjOk X.prog X.w (upd H s.heap.objs.size (.tup [.int (i : Nat), x])) h'' s.heap.objs.size (.tup [.int (i : Nat), x]) :=
      ⟨by show 2 ≤ sizeLine; decide, [.int i tk, x'], .cons ⟨_, rfl⟩ (.cons ru .nil), ⟨_, hT2, rfl, _, rfl⟩⟩
    have I1 : Inv X pins σ (upd H s.heap.objs.size (.tup [.int (i : Nat), x])) { s with heap := h'', toks := tk + 1 } :=
      I.turnedNew (ch := [e, it]) (fun b ob hb q => (sb.2 b (fun z => hb (by simp [z]))).trans (hk b ob (fun z => hb (by simp [z])) (fun z => hb (by simp [z])) q)) hf (Nat.le_refl _) new
    refine ⟨.ref s.heap.objs.size, _, I1, rfl, ⟨_, x, rfl, I.hok.fresh (Nat.le_refl _), rfl, fun ys hy => by rw [I.tuple_inj hy hq]; exact hx⟩, ⟨⟨x', ?_⟩, hst'.1.at fun o q => (sb.2 it (Ne.symm hne)).trans q, hne⟩, fun b hb => ?_⟩
    · have e1 : ((i + 1 : Nat) : Int) = (i : Int) + 1 := by omega
      rw [e1]; exact he'
    · have hb' : b < s.heap.objs.size := by
        have e' : b = e ∨ b = it := by simpa using hb
        rcases e' with z | z
        · rw [z]; exact hel
        · rw [z]; exact hil
      rw [upd_ne (Nat.ne_of_lt hb')]
      exact (hf b hb).1
  done := by
    intro X hP hw hK hc i pins s σ H E I hf st hg
    subst hP hw hK
    obtain ⟨⟨old, he⟩, hit, hne⟩ := st
    obtain ⟨xs, hq, hx⟩ := hg
    obtain ⟨its, rv, p, hz⟩ := I.tuple hq
    obtain ⟨f0, f1, f2, f3, f4, f5⟩ := hf it (by simp)
    have hl := rv.length
    have pt : s.heap.IsTuple a its.toArray := p
    have hT : s.TypeIs (.ref e) "enumerate" := ⟨_, he, rfl⟩
    unfold pyNext
    refine wpAny_bind (wpAny_attempt (wpAny_callSpecial?_slot (name := Str.ofString "__next__") hT F.slot_enumerate_next
      (wpAny_call_entry F.slot_enumerate_next hT F.entry_enumerate_next ?_ (F.args_enumerate_next_1 _))))
    show wpAny _ _ (PySem.field (.ref e) 2 >>= _) _ _ _
    refine wpAny_bind (wpAny_field he rfl (x := .ref it) rfl ?_)
    refine wpAny_bind (wpAny_nextOf_tuple_end (I.ok.hd hc) hit pt (by simp; omega) fun h' x he' hx' => ?_)
    obtain ⟨o, ho, hcl⟩ := hx'
    refine wpAny_bind (wpAny_isInstance (T := "StopIteration") (b := true) ⟨o, ho, hcl⟩ isSubtype_stop ?_)
    exact wpAny_pure ⟨rfl, I.turned (t' := s.toks) (fun b o hb q => he' b o hb q) f0 f1 f3 f4 f5⟩
  self := fun A i s Q E st h => let ⟨⟨_, he⟩, _⟩ := st; wpAny_pyIter_enum he h
def iEnT (K : PySem.W.Frag) (ta : TA) : TI := fun σ H R => ta σ H fun vs H1 => ∃ a xs, vs = [.ref a] ∧ SqT K H1 a xs ∧ R (Itet K a) H1
theorem pi_enumT {X : Cx} {e : Expr} {ta : TA} {p pos tpos : Pos} {elts : List Expr} {kk : Nat} (hg : Gl X "enumerate") (hm : X.mg "enumerate" = none) (ha : PA X [e] ta) (hs : starEach [e] X.env = [(false, eval e X.env)] := by rfl) :
    PI X (.Tuple elts kk tpos) (.Call (.Name "enumerate" p) [e] [] pos) (iEnT X.K ta) := by
  refine ⟨fun pins s σ H R I h => ?_⟩
  refine Call_ (ld_blt I hg hm boot_enumerate (PyProof.Rows.callWith_type1 (thn (ha.run pos pins s σ H _ I h) fun us s1 ⟨vs, H1, I1, r1, q1⟩ => ?_) hs rfl))
  obtain ⟨a, xs, ex, hq, q⟩ := q1
  subst ex
  cases r1 with
  | cons r rr =>
    cases rr
    cases r
    obtain ⟨its, rv, p', hz⟩ := I1.tuple hq
    refine call_enum1 (begins_tuple a its.toArray) (show s1.heap.IsTuple a its.toArray from p') fun h' he hit hsz hk => wpAny_pyIter_enum he ?_
    have I2 : Inv X pins σ H1 { s1 with heap := h' } := I1.kept (t' := s1.toks) hk
    refine ⟨s1.heap.objs.size + 1, [s1.heap.objs.size + 1, s1.heap.objs.size], _, _, H1, rfl, I2, turn_enumT a (s1.heap.objs.size + 1) s1.heap.objs.size, ⟨⟨.none, he⟩, ⟨_, hit, rfl, rfl⟩, Nat.succ_ne_self _⟩, fun b hb => ?_, q⟩
    have e' : b = s1.heap.objs.size + 1 ∨ b = s1.heap.objs.size := by simpa using hb
    have hle : s1.heap.objs.size ≤ b := by
      rcases e' with z | z
      · rw [z]; exact Nat.le_add_right _ _
      · rw [z]; exact Nat.le_refl _
    exact I1.fpOk hle (I1.hok.fresh hle)
theorem walks_enumT {F : Fm} {a : Addr} {ds : List DV} (h : ∀ F' S H, Wk F F' → Rep F' S H → ∃ xs, SqT F.K H a xs ∧ RelL F' ds xs) : Walks (Itet F.K a) F (enD 0 ds) := fun i F' S H w _ R => by
  obtain ⟨xs, hs, rl⟩ := h F' S H w R
  refine ⟨fun e => ⟨xs, hs, by rw [e, enD_len, rl.length]; exact Nat.le_refl _⟩, fun d hd => ?_⟩
  rw [enD_get] at hd
  cases hd0 : ds[i]? with
  | none =>
    rw [hd0] at hd
    cases hd
  | some d0 =>
    rw [hd0] at hd
    cases hd
    obtain ⟨x, hx, rx⟩ := rl.get hd0
    refine ⟨⟨xs, x, hs, hx⟩, fun y H' yl => ?_⟩
    obtain ⟨T, x', rfl, hT, rfl, hy⟩ := yl
    have e := (hy xs hs).symm.trans hx
    cases e
    obtain ⟨R', le⟩ := R.add (o := .tup [.int (i : Nat), x]) hT
    exact ⟨_, le, R', T, _, rfl, upd_same, .cons (by rw [Nat.zero_add]; exact rfl) (.cons (rx.le le) rfl)⟩
def iEnum2 (f : DA) : DI := fun ρ S => match f ρ S with
  | some ([.tup ds], S1) => some (enD 0 ds, S1)
  | some ([x], S1) => (match valL S1 x with
    | some ds => some (enD 0 ds, S1)
    | none => none)
  | _ => none
section
variable {X : Cx} {e : Expr} {fa : DA}
theorem id_enum2 {tg : Expr} {es : List Expr} (ha : AD X es fa) (h : ∀ {t : TA}, PA X es t → PI X tg e (L2.iEnum X.K t)) (h2 : ∀ {t : TA}, PA X es t → PI X tg e (iEnT X.K t)) : ID X tg e (iEnum2 fa) :=
  .of (PI.or (h ha.pa) (h2 ha.pa)) fun F S H ρ σ ds S' Q hk R rr hf hq => by
    unfold iEnum2 at hf
    split at hf
    · rename_i es S1 h1
      cases hf
      refine .inr (rdA.go hk R rr h1 fun F1 H1 vs le hk1 R1 r1 rl => ?_)
      obtain ⟨v, rfl, rv⟩ := one rl
      obtain ⟨a, xs, rfl, hs, rl⟩ := rv
      rw [← hk1]
      exact ⟨a, xs, rfl, SqT.of (R1.g _ _ hs), hq _ F1 H1 le R1 (walks_enumT fun F' S' H' w R' => ⟨xs, SqT.of (R'.g _ _ (w.g _ _ hs)), RelL.wk w _ _ rl⟩)⟩
    · rename_i x S1 h1
      split at hf
      · rename_i es hv
        cases hf
        refine .inl (rdA.go hk R rr h1 fun F1 H1 vs le hk1 R1 r1 rl => ?_)
        obtain ⟨v, rfl, rv⟩ := one rl
        obtain ⟨k, rv⟩ := valL_ok R1 rv hv
        obtain ⟨a, xs, rfl, hs, _⟩ := rv.lstSq R1
        rw [← hk1]
        refine ⟨a, xs, rfl, hs, hq _ F1 H1 le R1 (walks_enum fun F' S' H' w R' => ?_)⟩
        obtain ⟨a', xs', e, hs', rl'⟩ := (Rel.wk w _ _ rv).lstSq R'
        cases e
        rw [w.k] at hs'
        exact ⟨xs', hs', rl'⟩
      · cases hf
    · cases hf
end

theorem chain_go {K : PySem.W.Frag} {r r' : R2} {p q : P2} {f g h : DE} (hp : Ok2 K p r) (hp' : Ok2 K q r') {F : Fm} {S S' : Sto} {H : Hp} {ρ : Ev} {σ : L2.St} {d : DV} {Q : VK} (hk : F.K = K) (R : Rep F S H) (rr : RelE F ρ σ) (hf : dChain p q f g h ρ S = some (d, S')) (hq : PostE F S' d Q) :
    tChain r r' (rdE K f) (rdE K g) (rdE K h) σ H Q := by
  unfold dChain at hf
  split at hf
  · rename_i x S1 h1
    split at hf
    · rename_i y S2 h2
      refine rdE.go hk R rr h1 fun F1 H1 v le hk1 R1 r1 rx => rdE.go hk1 R1 r1 h2 fun F2 H2 u le2 hk2 R2 r2 ry => ?_
      split at hf
      · rename_i S3 h3
        refine hp F2 S2 H2 x y v u _ _ _ hk2 R2 (rx.le le2) ry h3 fun F3 H3 z le3 R3 rz => ⟨true, rz, ?_⟩
        rw [if_pos rfl]
        split at hf
        · rename_i z S4 h4
          exact rdE.go (le3.k.trans hk2) R3 (r2.le le3) h4 fun F4 H4 w le4 hk4 R4 r4 rw_ => hp' F4 S4 H4 y z u w d S' Q hk4 R4 (ry.le (le3.trans le4)) rw_ hf (hq.le (((le.trans le2).trans le3).trans le4))
        · cases hf
      · rename_i S3 h3
        cases hf
        refine hp F2 S2 H2 x y v u _ _ _ hk2 R2 (rx.le le2) ry h3 fun F3 H3 z le3 R3 rz => ⟨false, rz, ?_⟩
        rw [if_neg Bool.false_ne_true]
        exact hq F3 H3 _ ((le.trans le2).trans le3) R3 rfl
      · cases hf
    · cases hf
  · cases hf
theorem td_chain {X : Cx} {a b c : Expr} {pos : Pos} {op op' : CmpOp} {r r' : R2} {p q : P2} {f g h : DE} (ho : OpR X (compareOp op) r) (hp : Ok2 X.K p r) (ho' : OpR X (compareOp op') r') (hp' : Ok2 X.K q r') (ha : ED X a f) (hb : ED X b g) (hc : ED X c h)
    (hm : lastMarks [op, op'] [b, c] = false := by with_unfolding_all rfl) : TD X (.Compare a [op, op'] [b, c] pos) (dChain p q f g h) :=
  .of (pt_chain ho ho' ha.pe hb.pe hc.pe hm) fun F S H ρ σ d S' Q hk R rr hf hq => chain_go hp hp' hk R rr hf fun F' H' v le R' rv => by
    have e : v = .bl d := rv
    exact ⟨d, e, hq F' H' le R'⟩
theorem ed_chain2 {X : Cx} {a b c : Expr} {pos : Pos} {op op' : CmpOp} {r r' : R2} {p q : P2} {f g h : DE} (ho : OpR X (compareOp op) r) (hp : Ok2 X.K p r) (ho' : OpR X (compareOp op') r') (hp' : Ok2 X.K q r') (ha : ED X a f) (hb : ED X b g) (hc : ED X c h)
    (hm : lastMarks [op, op'] [b, c] = false := by with_unfolding_all rfl) : ED X (.Compare a [op, op'] [b, c] pos) (dChain p q f g h) :=
  .of (pe_chain ho ho' ha.pe hb.pe hc.pe hm) fun F S H ρ σ d S' Q hk R rr hf hq => chain_go hp hp' hk R rr hf hq

/-! ### written texts are alike just where they are written alike -/
theorem charNat_inj {x y : Char} (h : x.toNat = y.toNat) : x = y := by
  apply Char.ext
  exact UInt32.toNat_inj.mp h
theorem mapNat_inj : ∀ {l m : List Char}, l.map Char.toNat = m.map Char.toNat → l = m
  | [], [], _ => rfl
  | [], _ :: _, h => by cases h
  | _ :: _, [], h => by cases h
  | x :: l, y :: m, h => by
    rw [List.map_cons, List.map_cons] at h
    injection h with h1 h2
    rw [charNat_inj h1, mapNat_inj h2]
@[simp] theorem ofString_inj {a b : String} : (Str.ofString a = Str.ofString b) = (a = b) := by
  apply propext
  constructor
  · intro h
    rw [Str.ofString_eq_toList, Str.ofString_eq_toList] at h
    have h2 : a.toList.map Char.toNat = b.toList.map Char.toNat := by
      have := congrArg (fun s : Str => s.cps.toList) h
      simpa using this
    exact String.toList_inj.mp (mapNat_inj h2)
  · intro h
    rw [h]
end Dn

namespace Dn
open PySem PySem.Spec PyProof.Rows L2
section
variable {f g : DE} {lo hi : DO} {ρ : Ev} {S : Sto} {p : DV → Option Int → Option Int → Sto → Option (DV × Sto)} {fa : DA} {pm : PM}
@[simp] theorem v_sl : dSl p f lo hi ρ S = (match f ρ S with | some (x, S1) => (match lo ρ S1 with | some (l, S2) => (match hi ρ S2 with | some (u, S3) => p x l u S3 | none => none) | none => none) | none => none) := (rfl)
@[simp] theorem dwipe_nil : dwipe ρ [] = ρ := (rfl)
@[simp] theorem dwipe_cons {v : Nat} {vs : List Nat} : dwipe ρ (v :: vs) = (dwipe ρ vs).set v none := (rfl)
@[simp] theorem v_oN : oNone ρ S = some (none, S) := (rfl)
@[simp] theorem v_oS : oSome f ρ S = (match f ρ S with | some (.int i, S1) => some (some i, S1) | _ => none) := (rfl)
@[simp] theorem v_slS {s : Str} {l u : Option Int} : pSl (.str s) l u S = (if s.length ≤ sizeLine then some (.str (cutS s l u), S) else none) := (rfl)
@[simp] theorem v_slL {k : LK} {xs : List DV} {l u : Option Int} : pSl (.lst k xs) l u S = some (.lst .own (cutD xs l u), S) := (rfl)
@[simp] theorem v_slT {xs : List DV} {l u : Option Int} : pSl (.tup xs) l u S = some (.tup (cutD xs l u), S) := (rfl)
@[simp] theorem v_mt : dMt pm f fa ρ S = (match f ρ S with | some (x, S1) => (match asL S1 x with | some _ => (match fa ρ S1 with | some (xs, S2) => pm x xs S2 | none => none) | none => none) | none => none) := (rfl)
theorem app_loc {n : Nat} {y : DV} {xs : List DV} (h : S[n]? = some (.lst xs)) (hz : xs.length < 16777216) : pAppend (.loc n) [y] S = some (.non, S.set n (.lst (xs ++ [y]))) := by
  unfold pAppend
  simp only [h]
  exact if_pos hz
theorem asL_loc {n : Nat} {xs : List DV} (h : S[n]? = some (.lst xs)) : asL S (.loc n) = some xs := by
  unfold asL
  simp only [h]
@[simp] theorem asL_lst {k : LK} {xs : List DV} : asL S (.lst k xs) = some xs := (rfl)
@[simp] theorem v_lenL {k : LK} {xs : List DV} : pLen [.lst k xs] S = some (.int xs.length, S) := (rfl)
@[simp] theorem v_lenT {xs : List DV} : pLen [.tup xs] S = some (.int xs.length, S) := (rfl)
@[simp] theorem v_lenS {x : Str} : pLen [.str x] S = (if x.length ≤ sizeLine then some (.int x.length, S) else none) := (rfl)
@[simp] theorem v_tupL {k : LK} {xs : List DV} : pTuple [.lst k xs] S = some (.tup xs, S) := (rfl)
@[simp] theorem v_tupT {xs : List DV} : pTuple [.tup xs] S = some (.tup xs, S) := (rfl)
@[simp] theorem v_listT {xs : List DV} : pList [.tup xs] S = some (.lst .own xs, S) := (rfl)
@[simp] theorem v_listL {k : LK} {xs : List DV} : pList [.lst k xs] S = some (.lst .own xs, S) := (rfl)
@[simp] theorem v_intB {b : Bool} : pInt [.bl b] S = some (.int (if b then 1 else 0), S) := (rfl)
@[simp] theorem v_intI {b : Int} : pInt [.int b] S = some (.int b, S) := (rfl)
@[simp] theorem v_chain {p q : P2} {f g h : DE} : dChain p q f g h ρ S = (match f ρ S with
  | some (x, S1) => (match g ρ S1 with
    | some (y, S2) => (match p x y S2 with
      | some (.bl true, S3) => (match h ρ S3 with
        | some (z, S4) => q y z S4
        | none => none)
      | some (.bl false, S3) => some (.bl false, S3)
      | _ => none)
    | none => none)
  | none => none) := (rfl)
@[simp] theorem v_addM {k l : LK} {xs ys : List DV} (hk : k ≠ .ext := by decide) (hl : l ≠ .ext := by decide) : pAddM (.lst k xs) (.lst l ys) S = (if xs.length + ys.length ≤ sizeLine then some (.loc S.length, S ++ [.lst (xs ++ ys)]) else none) := by
  cases k <;> cases l <;> first | rfl | exact absurd rfl hk | exact absurd rfl hl
@[simp] theorem ty_int {i : Int} : tyD S (.int i) = some .int := (rfl)
@[simp] theorem ty_str {i : Str} : tyD S (.str i) = some .str := (rfl)
@[simp] theorem ty_bl {i : Bool} : tyD S (.bl i) = some .bool := (rfl)
@[simp] theorem ty_non : tyD S .non = some .non := (rfl)
@[simp] theorem ty_tup {i : List DV} : tyD S (.tup i) = some .tuple := (rfl)
@[simp] theorem ty_own {i : List DV} : tyD S (.lst .own i) = some .list := (rfl)
@[simp] theorem ty_bor {i : List DV} : tyD S (.lst .bor i) = some .list := (rfl)
end
theorem All2.get {α β : Type} {P : α → β → Prop} : ∀ {as : List α} {bs : List β} {i : Nat} {a : α}, All2 P as bs → as[i]? = some a → ∃ b, bs[i]? = some b ∧ P a b
  | _, _, i, a, .nil, h => by simp at h
  | _, _, 0, a, .cons p t, h => by
    cases h
    exact ⟨_, rfl, p⟩
  | _, _, i + 1, a, .cons p t, h => by
    rw [List.getElem?_cons_succ] at h
    obtain ⟨b, h1, h2⟩ := t.get h
    exact ⟨b, by rw [List.getElem?_cons_succ]; exact h1, h2⟩
end Dn

/-! objects -/
namespace Dn
open PySem PySem.Spec PyProof.Rows L2
/-- what is known of the classes -/
def ATOk (K : PySem.W.Frag) (T : ATab) : Prop := ∀ C f, T.contains (C, f) = true → Cls K (He.ga K C) ∧ NoAttr K (He.ga K C) f
section
variable {X : Cx} {e o : Expr} {g : DE} {T : ATab} {f : Str} {pos : Pos}
end

/-! ### methods, makers -/
structure MtC (P : Program) (w : World) (K : PySem.W.Frag) (mg : Str → Option Value) (base : Heap) (C m : Str) (k : Nat) (ps : List Str) (dvs : List V) (f : PL) : Prop where
  ex : ∃ (a : Addr) (fd : FuncData) (ds : List Value), Cls K (He.ga K C) ∧ Meth K (He.ga K C) m a ∧ FnOk P w K mg base CX0 k a fd ps (spS K ps.length f) ∧ Binds K fd ps ds ∧ Vals dvs ds
structure MkC (P : Program) (w : World) (K : PySem.W.Frag) (mg : Str → Option Value) (base : Heap) (C : Str) (k : Nat) (ps : List Str) (dvs : List V) (f : PL) : Prop where
  ex : ∃ (a : Addr) (fd : FuncData) (ds : List Value), mg C = some (.ref (He.ga K C)) ∧ Mk K (He.ga K C) a ∧ FnOk P w K mg base CX0 k a fd ps (spS K ps.length f) ∧ Binds K fd ps ds ∧ Vals dvs ds
section
variable {X : Cx} {e o : Expr} {es : List Expr} {g : DE} {fa : DA} {C m x : Str} {k j : Nat} {ps : List Str} {dvs : List V} {dds : List DV} {np n : Nat} {b0 : DS} {p pos apos : Pos}
end
theorem MtC.of {P : Program} {w : World} {K : PySem.W.Frag} {mg : Str → Option Value} {base : Heap} {C m x : Str} {k : Nat} {ps : List Str} {f : PL} {a : Addr} {fd : FuncData} {qual : Str} {params : Arguments} {body : List Stmt} {scope : Scope}
    (F : FunD K x qual params body scope [] [] a fd) (hc : (He.Fa.cls C).ok K = true) (hm : (He.Fa.meth C m).ok K = true) (ha : a = He.ma K (He.ga K C) m) (h : FnOk P w K mg base CX0 k a fd ps (spS K ps.length f))
    (hb : ∀ (kV doc pm : Value) (an : Option Addr) (cdv ct : Value) (us : List Value), us.length = ps.length → bindArgs (PySem.W.fnOf x qual params body scope .none kV doc pm an cdv ct) ⟨us, []⟩ = pure (ps.zip us)) : MtC P w K mg base C m k ps [] f := by
  subst ha
  exact ⟨_, fd, [], He.cls_ok hc, He.meth_ok hm, h, F.bindsN hb, .nil⟩
theorem MkC.of {P : Program} {w : World} {K : PySem.W.Frag} {mg : Str → Option Value} {base : Heap} {C x : Str} {k : Nat} {ps : List Str} {f : PL} {a : Addr} {fd : FuncData} {qual : Str} {params : Arguments} {body : List Stmt} {scope : Scope}
    (F : FunD K x qual params body scope [] [] a fd) (hg : mg C = some (.ref (He.ga K C))) (hm : (He.Fa.mkr C).ok K = true) (ha : a = He.ma K (He.ga K C) "__init__") (h : FnOk P w K mg base CX0 k a fd ps (spS K ps.length f))
    (hb : ∀ (kV doc pm : Value) (an : Option Addr) (cdv ct : Value) (us : List Value), us.length = ps.length → bindArgs (PySem.W.fnOf x qual params body scope .none kV doc pm an cdv ct) ⟨us, []⟩ = pure (ps.zip us)) : MkC P w K mg base C k ps [] f := by
  subst ha
  exact ⟨_, fd, [], hg, He.mkr_ok hm, h, F.bindsN hb, .nil⟩
theorem atOk_of {K : PySem.W.Frag} {T : ATab} (h : atB K T = true) : ATOk K T := fun C f hc => by
  have h1 := List.all_eq_true.mp h (C, f) (List.contains_iff_mem.mp hc)
  obtain ⟨a, b⟩ := Bool.and_eq_true_iff.mp h1
  exact ⟨He.cls_ok a, He.noat_ok b⟩
end Dn

/-! loops and comprehensions over a list that may be changed elsewhere: read place by place -/
namespace Dn
open PySem PySem.Spec PyProof.Rows L2
section
variable {X : Cx} {e : Expr} {st : Stmt} {f : DE} {g : DG} {c fe : DE} {vs : List Nat} {t : TG} {tt : TT}
end
end Dn

namespace Dn
open PySem PySem.Spec PyProof.Rows L2
section
variable {X : Cx} {o value a b e : Expr} {f : Str} {pos pos' tpos : Pos} {T : ATab} {g gv : DE}
/-! ### o.f op= v -/
/-! ### is, is not of truths -/
def pIsB (neg : Bool) : P2 := fun x y S => match x, y with
  | .bl a, .bl b => some (.bl (if neg then !decide (a = b) else decide (a = b)), S)
  | _, _ => none
variable {f1 f2 : DE}
@[simp] theorem v_isB {a b : Bool} {S : Sto} : pIsB false (.bl a) (.bl b) S = some (.bl (decide (a = b)), S) := (rfl)
@[simp] theorem v_isnotB {a b : Bool} {S : Sto} : pIsB true (.bl a) (.bl b) S = some (.bl (!decide (a = b)), S) := (rfl)
/-! ### {k: v, ..} -/
end
end Dn

namespace Dn
open PySem PySem.Spec PyProof.Rows L2
/-! ### objects' fields, evaluated -/
section
variable {T : ATab} {f C m : Str} {g o v e : DE} {fa : DA} {ρ : Ev} {S S0 S1 S2 : Sto} {n : Nat} {fs fs' : List (Str × DV)} {d x y : DV} {F : PL} {xs : List DV} {p : P2}
end
section
variable {S S0 S1 S2 S3 : Sto} {n : Nat} {ks : List Key} {vs ds : List DV} {x : Str} {y d : DV} {i : Int} {j : Nat} {ρ : Ev} {f g h v o : DE}
theorem setI_dik (hS : S[n]? = some (.dik ks vs)) (hz : ks.length < 16777216) : setI (.loc n) (.str x) y S = some (S.set n (.dik (putKs ks (.inr x)) (putVs ks vs (.inr x) y))) := by
  unfold setI
  simp only [hS, keyD]
  rw [if_pos (by rw [size_eq]; exact hz)]
theorem setI_lst (hS : S[n]? = some (.lst ds)) (hi : ixN ds.length i = some j) : setI (.loc n) (.int i) y S = some (S.set n (.lst (ds.set j y))) := by
  unfold setI
  simp only [hS, hi]
theorem getD_dik (hS : S[n]? = some (.dik ks vs)) : getD S (.loc n) (.str x) = some (lkD ks vs (.inr x)) := by
  unfold getD asK keyD
  simp only [hS]
theorem cpD_dik {b : Bool} (h : S[n]? = some (.dik ks vs)) (hp : plainL vs = true) : cpD b S (.loc n) = some (.dik (bk b) ks vs) := by
  show cpN b (S.length + 1) S n = _
  unfold cpN
  simp only [h, mapDL_plain hp]
end
/-! ### dicts in plain Lean -/
def lkG {κ α : Type} [DecidableEq κ] : List κ → List α → κ → Option α
  | k :: ks, d :: ds, j => if k = j then some d else lkG ks ds j
  | _, _, _ => none
def putG {κ α : Type} [DecidableEq κ] (ks : List κ) (ds : List α) (j : κ) (x : α) : List α := if hasK ks j = true then rpG j x ks ds else ds ++ [x]
section
variable {κ α : Type} [DecidableEq κ] {f : α → DV} {j : κ} {v : α}
theorem lkD_map : ∀ {ks : List κ} {vs : List α}, lkD ks (vs.map f) j = (lkG ks vs j).map f
  | [], vs => by
    unfold lkD lkG
    rfl
  | k :: ks, [] => by
    unfold lkG
    rfl
  | k :: ks, v :: vs => by
    rw [List.map_cons]
    unfold lkD lkG
    by_cases q : k = j
    · rw [if_pos q, if_pos q] <;> rfl
    · rw [if_neg q, if_neg q]
      exact lkD_map
theorem rpG_mem {P : α → Prop} (hv : P v) : ∀ {ks : List κ} {vs : List α}, (∀ u ∈ vs, P u) → ∀ u ∈ rpG j v ks vs, P u
  | [], vs, h, u, hu => by
    unfold rpG at hu
    cases hu
  | k :: ks, [], h, u, hu => by
    cases hu
  | k :: ks, w :: vs, h, u, hu => by
    unfold rpG at hu
    rcases List.mem_cons.mp hu with e | e
    · by_cases q : k = j
      · rw [if_pos q] at e
        rw [e]
        exact hv
      · rw [if_neg q] at e
        rw [e]
        exact h w List.mem_cons_self
    · exact rpG_mem hv (fun u hu => h u (List.mem_cons_of_mem _ hu)) u e
theorem putG_mem {P : α → Prop} (hv : P v) {ks : List κ} {vs : List α} (h : ∀ u ∈ vs, P u) : ∀ u ∈ putG ks vs j v, P u := by
  unfold putG
  by_cases q : hasK ks j = true
  · rw [if_pos q]
    exact rpG_mem hv h
  · rw [if_neg q]
    intro u hu
    rcases List.mem_append.mp hu with e | e
    · exact h u e
    · rw [List.mem_singleton.mp e]
      exact hv
theorem putG_len {ks : List κ} {vs : List α} (h : ks.length = vs.length) : (putKs ks j).length = (putG ks vs j v).length := by
  unfold putKs putG
  by_cases q : hasK ks j = true
  · rw [if_pos q, if_pos q, rp_len h]
  · rw [if_neg q, if_neg q, List.length_append, List.length_append, h] <;> rfl
theorem putKs_len {ks : List κ} : (putKs ks j).length ≤ ks.length + 1 := by
  unfold putKs
  by_cases q : hasK ks j = true
  · rw [if_pos q]
    omega
  · rw [if_neg q, List.length_append] <;> simp
theorem putKs_has {ks : List κ} (h : hasK ks j = true) : putKs ks j = ks := by
  unfold putKs
  rw [if_pos h]
theorem putG_has {ks : List κ} {vs : List α} (h : hasK ks j = true) : putG ks vs j v = rpG j v ks vs := by
  unfold putG
  rw [if_pos h]
theorem lkG_mem : ∀ {ks : List κ} {vs : List α} {v : α}, lkG ks vs j = some v → v ∈ vs
  | [], vs, v, h => by
    unfold lkG at h
    cases h
  | k :: ks, [], v, h => by
    unfold lkG at h
    cases h
  | k :: ks, u :: vs, v, h => by
    unfold lkG at h
    by_cases q : k = j
    · rw [if_pos q] at h
      cases h
      exact List.mem_cons_self
    · rw [if_neg q] at h
      exact List.mem_cons_of_mem _ (lkG_mem h)
theorem lkG_has : ∀ {ks : List κ} {vs : List α}, ks.length = vs.length → hasK ks j = true → ∃ v, lkG ks vs j = some v
  | [], vs, _, h => by cases h
  | k :: ks, [], h, _ => by cases h
  | k :: ks, u :: vs, hl, h => by
    unfold lkG
    by_cases q : k = j
    · rw [if_pos q]
      exact ⟨_, rfl⟩
    · rw [if_neg q]
      refine lkG_has (Nat.succ.inj hl) ?_
      unfold hasK at h ⊢
      rw [List.any_cons, decide_eq_false q, Bool.false_or] at h
      exact h
end
/-! ### the plain machine in plain Lean -/
abbrev W40 : Int := 1099511627776
def In40 (z : Int) : Prop := 0 ≤ z ∧ z < 1099511627776
inductive Atm where
  | n (i : Int) | x (s : Str)
def Atm.d : Atm → DV
  | .n i => .int i
  | .x s => .str s
def Atm.Ok : Atm → Prop
  | .n i => In40 i
  | .x _ => True
@[simp] theorem Atm.plain_d {a : Atm} : plain a.d = true := by cases a <;> rfl
inductive PRow where
  | say (a : Atm) | copy (x : Str) (a : Atm) | op (x s : Str) (a b : Atm) | load (x c : Str) | store (c : Str) (a : Atm)
  | take (x s : Str) (a : Atm) | lay (s : Str) (a b : Atm) | hear (x : Str) | ifr (a : Atm) (n : Nat) | go (n : Nat) | endr (a : Atm)
def PRow.d : PRow → DV
  | .say a => .tup [.str "say", a.d]
  | .copy x a => .tup [.str "copy", .str x, a.d]
  | .op x s a b => .tup [.str "op", .str x, .str s, a.d, b.d]
  | .load x c => .tup [.str "load", .str x, .str c]
  | .store c a => .tup [.str "store", .str c, a.d]
  | .take x s a => .tup [.str "take", .str x, .str s, a.d]
  | .lay s a b => .tup [.str "lay", .str s, a.d, b.d]
  | .hear x => .tup [.str "hear", .str x]
  | .ifr a n => .tup [.str "if", a.d, .int n]
  | .go n => .tup [.str "go", .int n]
  | .endr a => .tup [.str "end", a.d]
theorem PRow.plain_d {r : PRow} : plain r.d = true := by cases r <;> simp [PRow.d]
def PRow.led (i : Nat) : PRow → List Nat
  | .endr _ => []
  | .go n => [n]
  | .ifr _ n => [n, i + 1]
  | _ => [i + 1]
def ledD (i : Nat) (r : PRow) : DV := .tup ((r.led i).map fun (n : Nat) => .int n)
def leadsD (rows : List PRow) : List DV := rows.mapIdx ledD
def isSign (s : Str) : Prop := s = "+" ∨ s = "-" ∨ s = "*" ∨ s = "<" ∨ s = "=" ∨ s = "&" ∨ s = "|" ∨ s = "^"
def valS (s : Str) (a b : Int) : Int := if s = "+" then (a + b) % W40 else if s = "-" then (a - b) % W40 else if s = "*" then a * b % W40 else
  if s = "<" then (if a < b then 1 else 0) else if s = "=" then (if a = b then 1 else 0) else if s = "&" then Builtin.bitAnd a b else if s = "|" then Builtin.bitOr a b else Builtin.bitXor a b
theorem bits40 {a b : Int} (ha : In40 a) (hb : In40 b) : In40 (Builtin.bitAnd a b) ∧ In40 (Builtin.bitOr a b) ∧ In40 (Builtin.bitXor a b) := by
  obtain ⟨a0, a1⟩ := ha
  obtain ⟨b0, b1⟩ := hb
  have h1 : a.toNat < 2 ^ 40 := by omega
  have h2 : b.toNat < 2 ^ 40 := by omega
  rw [bitAnd_pp a0 b0, Bits.bitOr_pp a0 b0, Bits.bitXor_pp a0 b0]
  have k1 := Nat.and_lt_two_pow a.toNat h2
  have k2 := Nat.or_lt_two_pow h1 h2
  have k3 := Nat.xor_lt_two_pow h1 h2
  unfold In40
  refine ⟨⟨?_, ?_⟩, ⟨?_, ?_⟩, ⟨?_, ?_⟩⟩ <;> omega
theorem valS_40 {s : Str} {a b : Int} (ha : In40 a) (hb : In40 b) : In40 (valS s a b) := by
  obtain ⟨k1, k2, k3⟩ := bits40 ha hb
  have m : ∀ z : Int, In40 (z % W40) := fun z => ⟨Int.emod_nonneg _ (by decide), Int.emod_lt_of_pos _ (by decide)⟩
  unfold valS
  repeat' split
  all_goals first
    | exact m _
    | exact k1
    | exact k2
    | exact k3
    | exact ⟨by decide, by decide⟩
structure PSt where
  at_ : Nat
  done : Nat
  hears : Nat
  res : Option Int
  hk : List Key
  hv : List Int
  ck : List Key
  cv : List Int
  sk : List Key
  sv : List (List Int)
  gone : List Int
def optI : Option Int → DV
  | none => .non
  | some v => .int v
def PSt.worth (st : PSt) : Atm → Int
  | .n i => i
  | .x s => (lkG st.hk st.hv (.inr s)).getD 0
def PSt.out (st : PSt) (x : Str) (v : Int) : PSt := { st with hk := putKs st.hk (.inr x), hv := putG st.hk st.hv (.inr x) v }
def PSt.cell (st : PSt) (c : Str) : Int := (lkG st.ck st.cv (.inr c)).getD 0
def PSt.shelf (st : PSt) (s : Str) : List Int := (lkG st.sk st.sv (.inr s)).getD [0]
def placeN (l : List Int) (v : Int) : Nat := (v % (l.length : Int)).toNat
/-- a row done, but for where it leads -/
def PSt.does (coming : List Int) (st : PSt) : PRow → PSt
  | .say a => { st with gone := st.gone ++ [st.worth a] }
  | .copy x a => st.out x (st.worth a)
  | .op x s a b => st.out x (valS s (st.worth a) (st.worth b))
  | .load x c => st.out x (st.cell c)
  | .store c a => { st with cv := rpG (.inr c) (st.worth a) st.ck st.cv }
  | .take x s a => st.out x ((st.shelf s).getD (placeN (st.shelf s) (st.worth a)) 0)
  | .lay s a b => { st with sv := rpG (.inr s) ((st.shelf s).set (placeN (st.shelf s) (st.worth a)) (st.worth b)) st.sk st.sv }
  | .hear x => { st.out x (coming.getD st.hears 0) with hears := st.hears + 1 }
  | .ifr _ _ => st
  | .go _ => st
  | .endr a => { st with res := some (st.worth a) }
def PSt.next (st : PSt) : PRow → Nat
  | .ifr a n => if st.worth a = 0 then st.at_ + 1 else n
  | .go n => n
  | .endr _ => st.at_
  | _ => st.at_ + 1
def PSt.step (rows : List PRow) (coming : List Int) (st : PSt) : PSt := match st.res with
  | some _ => st
  | none => match rows[st.at_]? with
    | none => st
    | some r => { st.does coming r with done := st.done + 1, at_ := st.next r }
def PRow.Ok (ck sk : List Key) : PRow → Prop
  | .say a => a.Ok
  | .copy _ a => a.Ok
  | .op _ s a b => isSign s ∧ a.Ok ∧ b.Ok
  | .load _ c => hasK ck (.inr c) = true
  | .store c a => hasK ck (.inr c) = true ∧ a.Ok
  | .take _ s a => hasK sk (.inr s) = true ∧ a.Ok
  | .lay s a b => hasK sk (.inr s) = true ∧ a.Ok ∧ b.Ok
  | .hear _ => True
  | .ifr a _ => a.Ok
  | .go _ => True
  | .endr a => a.Ok
structure PSt.Ok (st : PSt) : Prop where
  hl : st.hk.length = st.hv.length
  hr : ∀ v ∈ st.hv, In40 v
  cl : st.ck.length = st.cv.length
  cr : ∀ v ∈ st.cv, In40 v
  sl : st.sk.length = st.sv.length
  sr : ∀ l ∈ st.sv, l ≠ [] ∧ l.length ≤ 1000 ∧ ∀ v ∈ l, In40 v
  hd : st.hk.length ≤ st.done
  gd : st.gone.length ≤ st.done
theorem in0 : In40 0 := ⟨by decide, by decide⟩
theorem PSt.Ok.worth {st : PSt} (O : st.Ok) {a : Atm} (h : a.Ok) : In40 (st.worth a) := by
  cases a with
  | n i => exact h
  | x s =>
    show In40 ((lkG st.hk st.hv (.inr s)).getD 0)
    cases e : lkG st.hk st.hv (.inr s) with
    | none => exact in0
    | some v => exact O.hr v (lkG_mem e)
theorem PSt.Ok.shelf {st : PSt} (O : st.Ok) {s : Str} (h : hasK st.sk (.inr s) = true) : lkG st.sk st.sv (.inr s) = some (st.shelf s) ∧ st.shelf s ≠ [] ∧ (st.shelf s).length ≤ 1000 ∧ ∀ v ∈ st.shelf s, In40 v := by
  obtain ⟨l, e⟩ := lkG_has O.sl h
  have e2 : st.shelf s = l := by
    unfold PSt.shelf
    rw [e]
    rfl
  rw [e2]
  exact ⟨e, O.sr l (lkG_mem e)⟩
theorem PSt.Ok.cell {st : PSt} (O : st.Ok) {c : Str} (h : hasK st.ck (.inr c) = true) : lkG st.ck st.cv (.inr c) = some (st.cell c) ∧ In40 (st.cell c) := by
  obtain ⟨l, e⟩ := lkG_has O.cl h
  have e2 : st.cell c = l := by
    unfold PSt.cell
    rw [e]
    rfl
  rw [e2]
  exact ⟨e, O.cr l (lkG_mem e)⟩
theorem PSt.Ok.out {st : PSt} (O : st.Ok) {x : Str} {v : Int} (hv : In40 v) {d : Nat} (hd : st.done + 1 ≤ d) {h : Nat} {a : Nat} {r : Option Int} : PSt.Ok { st.out x v with done := d, hears := h, at_ := a, res := r } :=
  ⟨putG_len O.hl, putG_mem hv O.hr, O.cl, O.cr, O.sl, O.sr, by
    have h1 : (putKs st.hk (Sum.inr x : Key)).length ≤ st.hk.length + 1 := putKs_len
    have h2 := O.hd
    show (putKs st.hk (Sum.inr x : Key)).length ≤ d
    omega, by
    have h2 := O.gd
    show st.gone.length ≤ d
    omega⟩
theorem placeN_lt {l : List Int} (h : l ≠ []) (v : Int) : placeN l v < l.length := by
  have h1 : 0 < l.length := List.length_pos_iff.mpr h
  have h2 := Int.emod_lt_of_pos v (b := (l.length : Int)) (by omega)
  have h3 := Int.emod_nonneg v (b := (l.length : Int)) (by omega)
  unfold placeN
  omega
theorem PSt.Ok.step {st : PSt} (O : st.Ok) {rows : List PRow} {coming : List Int} (hc : ∀ v ∈ coming, In40 v) (hr : ∀ r ∈ rows, r.Ok st.ck st.sk) : (st.step rows coming).Ok ∧ (st.step rows coming).ck = st.ck ∧ (st.step rows coming).sk = st.sk := by
  unfold PSt.step
  cases e : st.res with
  | some v => exact ⟨O, rfl, rfl⟩
  | none =>
    cases e2 : rows[st.at_]? with
    | none => exact ⟨O, rfl, rfl⟩
    | some r =>
      have hok := hr r (List.mem_of_getElem? e2)
      have hd := O.hd
      have gd := O.gd
      cases r with
      | say a => exact ⟨⟨O.hl, O.hr, O.cl, O.cr, O.sl, O.sr, Nat.le_succ_of_le hd, by simp [PSt.does]; omega⟩, rfl, rfl⟩
      | copy x a => exact ⟨O.out (O.worth hok) (Nat.le_refl _), rfl, rfl⟩
      | op x s a b => exact ⟨O.out (valS_40 (O.worth hok.2.1) (O.worth hok.2.2)) (Nat.le_refl _), rfl, rfl⟩
      | load x c => exact ⟨O.out (O.cell hok).2 (Nat.le_refl _), rfl, rfl⟩
      | store c a => exact ⟨⟨O.hl, O.hr, (O.cl.trans ((rp_len O.cl).trans O.cl).symm), rpG_mem (O.worth hok.2) O.cr, O.sl, O.sr, Nat.le_succ_of_le hd, Nat.le_succ_of_le gd⟩, rfl, rfl⟩
      | take x s a =>
        obtain ⟨_, s1, _, s2⟩ := O.shelf hok.1
        refine ⟨O.out ?_ (Nat.le_refl _), rfl, rfl⟩
        have hlt := placeN_lt s1 (st.worth a)
        rw [List.getD_eq_getElem?_getD, List.getElem?_eq_getElem hlt]
        exact s2 _ (List.getElem_mem hlt)
      | lay s a b =>
        obtain ⟨_, s1, s3, s2⟩ := O.shelf hok.1
        refine ⟨⟨O.hl, O.hr, O.cl, O.cr, (O.sl.trans ((rp_len O.sl).trans O.sl).symm), rpG_mem (P := fun l => l ≠ [] ∧ l.length ≤ 1000 ∧ ∀ v ∈ l, In40 v) ⟨?_, by rw [List.length_set]; exact s3, fun v hv => ?_⟩ O.sr, Nat.le_succ_of_le hd, Nat.le_succ_of_le gd⟩, rfl, rfl⟩
        · exact fun q => s1 (by simpa using q)
        · rcases List.mem_or_eq_of_mem_set hv with h | h
          · exact s2 v h
          · rw [h]
            exact O.worth hok.2.2
      | hear x =>
        refine ⟨O.out ?_ (Nat.le_refl _), rfl, rfl⟩
        rw [List.getD_eq_getElem?_getD]
        cases e3 : coming[st.hears]? with
        | none => exact in0
        | some v => exact hc v (List.mem_of_getElem? e3)
      | ifr a n => exact ⟨⟨O.hl, O.hr, O.cl, O.cr, O.sl, O.sr, Nat.le_succ_of_le hd, Nat.le_succ_of_le gd⟩, rfl, rfl⟩
      | go n => exact ⟨⟨O.hl, O.hr, O.cl, O.cr, O.sl, O.sr, Nat.le_succ_of_le hd, Nat.le_succ_of_le gd⟩, rfl, rfl⟩
      | endr a => exact ⟨⟨O.hl, O.hr, O.cl, O.cr, O.sl, O.sr, Nat.le_succ_of_le hd, Nat.le_succ_of_le gd⟩, rfl, rfl⟩
end Dn

namespace Dn
open PySem PySem.Spec PyProof.Rows L2
/-! ### tuples' places -/
section
variable {a b c d e x : DV} {S : Sto} {s t u y : Str}
@[simp] theorem ix_t1_0 : pIx (.tup [a]) (.int 0) S = some (a, S) := (rfl)
@[simp] theorem ix_t2_0 : pIx (.tup [a, b]) (.int 0) S = some (a, S) := (rfl)
@[simp] theorem ix_t2_1 : pIx (.tup [a, b]) (.int 1) S = some (b, S) := (rfl)
@[simp] theorem ix_t3_0 : pIx (.tup [a, b, c]) (.int 0) S = some (a, S) := (rfl)
@[simp] theorem ix_t3_1 : pIx (.tup [a, b, c]) (.int 1) S = some (b, S) := (rfl)
@[simp] theorem ix_t3_2 : pIx (.tup [a, b, c]) (.int 2) S = some (c, S) := (rfl)
@[simp] theorem ix_t4_0 : pIx (.tup [a, b, c, d]) (.int 0) S = some (a, S) := (rfl)
@[simp] theorem ix_t4_1 : pIx (.tup [a, b, c, d]) (.int 1) S = some (b, S) := (rfl)
@[simp] theorem ix_t4_2 : pIx (.tup [a, b, c, d]) (.int 2) S = some (c, S) := (rfl)
@[simp] theorem ix_t4_3 : pIx (.tup [a, b, c, d]) (.int 3) S = some (d, S) := (rfl)
@[simp] theorem ix_t5_0 : pIx (.tup [a, b, c, d, e]) (.int 0) S = some (a, S) := (rfl)
@[simp] theorem ix_t5_1 : pIx (.tup [a, b, c, d, e]) (.int 1) S = some (b, S) := (rfl)
@[simp] theorem ix_t5_2 : pIx (.tup [a, b, c, d, e]) (.int 2) S = some (c, S) := (rfl)
@[simp] theorem ix_t5_3 : pIx (.tup [a, b, c, d, e]) (.int 3) S = some (d, S) := (rfl)
@[simp] theorem ix_t5_4 : pIx (.tup [a, b, c, d, e]) (.int 4) S = some (e, S) := (rfl)
theorem eqF_str : eqF (.str s) (.str y) = decide (s = y) := by
  show (s == y) = _
  by_cases q : s = y
  · rw [q]
    simp
  · rw [decide_eq_false q]
    simpa using q
@[simp] theorem in_t3 : pIn false (.str y) (.tup [.str s, .str t, .str u]) S = some (.bl (decide (s = y) || (decide (t = y) || decide (u = y))), S) := by
  unfold pIn
  simp [inD, eqF_str, flD]
end
/-! ### the plain machine in the store -/
structure PLoc where
  o : Nat
  l : Nat
  c : Nat
  h : Nat
  ce : Nat
  p : Nat
  g : Nat
  ss : List Nat
def PLoc.fp (L : PLoc) : List Nat := L.o :: L.l :: L.c :: L.h :: L.ce :: L.p :: L.g :: L.ss
def plF (rows : List PRow) (L : PLoc) (st : PSt) : List (Str × DV) :=
  [("rows", .tup (rows.map PRow.d)), ("leads", .loc L.l), ("coming", .loc L.c), ("at", .int st.at_), ("held", .loc L.h), ("cells", .loc L.ce), ("places", .loc L.p), ("gone", .loc L.g), ("hears", .int st.hears), ("done", .int st.done), ("result", optI st.res)]
structure PlAt (S : Sto) (L : PLoc) (rows : List PRow) (coming : List Int) (st : PSt) : Prop where
  o : S[L.o]? = some (.ins "Plain" (plF rows L st))
  l : S[L.l]? = some (.lst (leadsD rows))
  c : S[L.c]? = some (.lst (coming.map .int))
  h : S[L.h]? = some (.dik st.hk (st.hv.map .int))
  ce : S[L.ce]? = some (.dik st.ck (st.cv.map .int))
  p : S[L.p]? = some (.dik st.sk (L.ss.map .loc))
  g : S[L.g]? = some (.lst (st.gone.map .int))
  s : ∀ (i : Nat) (l : List Int), st.sv[i]? = some l → ∃ n : Nat, L.ss[i]? = some n ∧ S[n]? = some (Cell.lst (l.map DV.int))
  sl : L.ss.length = st.sv.length
  sk : st.sk.Nodup
  skl : st.sk.length = st.sv.length
  nd : L.fp.Nodup
/-- what else is in the store stays -/
def Fr (L : PLoc) (S S1 : Sto) : Prop := S1.length = S.length ∧ ∀ i, i ∉ L.fp → S1[i]? = S[i]?
theorem Fr.refl {L : PLoc} {S : Sto} : Fr L S S := ⟨rfl, fun _ _ => rfl⟩
theorem Fr.trans {L : PLoc} {S S1 S2 : Sto} (a : Fr L S S1) (b : Fr L S1 S2) : Fr L S S2 := ⟨b.1.trans a.1, fun i h => (b.2 i h).trans (a.2 i h)⟩
theorem Fr.set {L : PLoc} {S : Sto} {n : Nat} {c : Cell} (h : n ∈ L.fp) : Fr L S (S.set n c) := ⟨List.length_set, fun i hi => List.getElem?_set_ne fun q => hi (by rw [← q]; exact h)⟩
section
variable {S S' : Sto} {L : PLoc} {rows : List PRow} {coming : List Int} {st : PSt}
theorem PlAt.ext (A : PlAt S L rows coming st) (e : ∀ i, i ∈ L.fp → S'[i]? = S[i]?) : PlAt S' L rows coming st := by
  have m : ∀ n ∈ L.ss, n ∈ L.fp := fun n h => by simp [PLoc.fp, h]
  refine ⟨?_, ?_, ?_, ?_, ?_, ?_, ?_, fun i l hl => ?_, A.sl, A.sk, A.skl, A.nd⟩
  · rw [e _ (by simp [PLoc.fp])]; exact A.o
  · rw [e _ (by simp [PLoc.fp])]; exact A.l
  · rw [e _ (by simp [PLoc.fp])]; exact A.c
  · rw [e _ (by simp [PLoc.fp])]; exact A.h
  · rw [e _ (by simp [PLoc.fp])]; exact A.ce
  · rw [e _ (by simp [PLoc.fp])]; exact A.p
  · rw [e _ (by simp [PLoc.fp])]; exact A.g
  · obtain ⟨n, h1, h2⟩ := A.s i l hl
    exact ⟨n, h1, by rw [e _ (m n (List.mem_of_getElem? h1))]; exact h2⟩
theorem rpG_get {κ α : Type} [DecidableEq κ] {j : κ} {v : α} : ∀ {ks : List κ} {vs : List α} {i : Nat}, (rpG j v ks vs : List α)[i]? = match ks[i]?, vs[i]? with
    | some k, some u => some (if k = j then v else u)
    | _, _ => none
  | [], vs, i => by
    unfold rpG
    simp
  | k :: ks, [], i => by
    unfold rpG
    cases h : (k :: ks)[i]? <;> simp
  | k :: ks, u :: vs, 0 => by
    unfold rpG
    rfl
  | k :: ks, u :: vs, i + 1 => by
    unfold rpG
    rw [List.getElem?_cons_succ, List.getElem?_cons_succ, List.getElem?_cons_succ, rpG_get]
theorem lkG_ix {κ α : Type} [DecidableEq κ] {j : κ} {v : α} : ∀ {ks : List κ} {vs : List α}, lkG ks vs j = some v → ∃ i : Nat, ks[i]? = some j ∧ vs[i]? = some v ∧ ∀ {β : Type} {us : List β} {u : β}, us[i]? = some u → lkG ks us j = some u
  | [], vs, h => by
    unfold lkG at h
    cases h
  | k :: ks, [], h => by
    unfold lkG at h
    cases h
  | k :: ks, w :: vs, h => by
    unfold lkG at h
    by_cases q : k = j
    · rw [if_pos q] at h
      refine ⟨0, by rw [← q] <;> rfl, h, fun {β us u} hu => ?_⟩
      cases us with
      | nil => cases hu
      | cons x us =>
        unfold lkG
        rw [if_pos q]
        exact hu
    · rw [if_neg q] at h
      obtain ⟨i, h1, h2, h3⟩ := lkG_ix h
      refine ⟨i + 1, h1, h2, fun {β us u} hu => ?_⟩
      cases us with
      | nil => cases hu
      | cons x us =>
        unfold lkG
        rw [if_neg q]
        exact h3 hu
theorem nodup_ix {α : Type} {a : α} : ∀ {l : List α} {i j : Nat}, l.Nodup → l[i]? = some a → l[j]? = some a → i = j
  | [], i, j, _, h, _ => by simp at h
  | x :: l, 0, 0, _, _, _ => rfl
  | x :: l, 0, j + 1, n, h, h2 => by
    rw [List.nodup_cons] at n
    have e : x = a := by simpa using h
    exact absurd (List.mem_of_getElem? (by simpa using h2)) (by rw [← e]; exact n.1)
  | x :: l, i + 1, 0, n, h, h2 => by
    rw [List.nodup_cons] at n
    have e : x = a := by simpa using h2
    exact absurd (List.mem_of_getElem? (by simpa using h)) (by rw [← e]; exact n.1)
  | x :: l, i + 1, j + 1, n, h, h2 => by
    rw [List.nodup_cons] at n
    have h' : l[i]? = some a := by simpa using h
    have h2' : l[j]? = some a := by simpa using h2
    exact congrArg (· + 1) (nodup_ix n.2 h' h2')
/-- where a shelf's places are -/
theorem PlAt.shelf (A : PlAt S L rows coming st) {s : Str} {l : List Int} (h : lkG st.sk st.sv (.inr s) = some l) : ∃ n : Nat, n ∈ L.fp ∧ lkD st.sk (L.ss.map .loc) (.inr s) = some (.loc n) ∧ S[n]? = some (Cell.lst (l.map DV.int)) ∧
    ∀ l', PlAt (S.set n (.lst (l'.map .int))) L rows coming { st with sv := rpG (.inr s) l' st.sk st.sv } := by
  obtain ⟨i, h1, h2, h3⟩ := lkG_ix h
  obtain ⟨n, h4, h5⟩ := A.s i l h2
  have hm : n ∈ L.ss := List.mem_of_getElem? h4
  have nd := A.nd
  simp only [PLoc.fp, List.nodup_cons, List.mem_cons, not_or] at nd
  obtain ⟨⟨n1, n2, n3, n4, n5, n6, n7⟩, ⟨l1, l2, l3, l4, l5, l6⟩, ⟨c1, c2, c3, c4, c5⟩, ⟨k1, k2, k3, k4⟩, ⟨e1, e2, e3⟩, ⟨p1, p2⟩, g1, ns⟩ := nd
  refine ⟨n, by simp [PLoc.fp, hm], by rw [lkD_map, h3 h4] <;> rfl, h5, fun l' => ⟨?_, ?_, ?_, ?_, ?_, ?_, ?_, fun i' u hu => ?_, ?_, A.sk, ?_, A.nd⟩⟩
  · rw [List.getElem?_set_ne fun q => n7 (by rw [← q]; exact hm)]; exact A.o
  · rw [List.getElem?_set_ne fun q => l6 (by rw [← q]; exact hm)]; exact A.l
  · rw [List.getElem?_set_ne fun q => c5 (by rw [← q]; exact hm)]; exact A.c
  · rw [List.getElem?_set_ne fun q => k4 (by rw [← q]; exact hm)]; exact A.h
  · rw [List.getElem?_set_ne fun q => e3 (by rw [← q]; exact hm)]; exact A.ce
  · rw [List.getElem?_set_ne fun q => p2 (by rw [← q]; exact hm)]; exact A.p
  · rw [List.getElem?_set_ne fun q => g1 (by rw [← q]; exact hm)]; exact A.g
  · have hu' : (rpG (Sum.inr s : Key) l' st.sk st.sv)[i']? = some u := hu
    rw [rpG_get] at hu'
    cases e1 : st.sk[i']? with
    | none =>
      rw [e1] at hu'
      cases hu'
    | some k =>
      cases e2 : st.sv[i']? with
      | none =>
        rw [e1, e2] at hu'
        cases hu'
      | some w =>
        rw [e1, e2] at hu'
        cases hu'
        obtain ⟨m, m1, m2⟩ := A.s i' w e2
        by_cases q : k = Sum.inr s
        · have ii : i' = i := by
            exact nodup_ix A.sk (by rw [e1, q]) h1
          subst ii
          rw [if_pos q]
          exact ⟨n, h4, List.getElem?_set_self (get_lt h5)⟩
        · rw [if_neg q]
          refine ⟨m, m1, ?_⟩
          rw [List.getElem?_set_ne]
          · exact m2
          · intro qq
            subst qq
            have : i' = i := nodup_ix ns m1 h4
            subst this
            rw [e1] at h1
            exact q (Option.some.inj h1)
  · show L.ss.length = (rpG (Sum.inr s : Key) l' st.sk st.sv).length
    rw [rp_len A.skl, A.sl, A.skl]
  · show st.sk.length = (rpG (Sum.inr s : Key) l' st.sk st.sv).length
    rw [rp_len A.skl]
end
end Dn

/-! loops over the keys of a live dict: it is locked while it is walked -/
namespace Dn
open PySem PySem.Spec PyProof.Rows L2
def notLok : Cell → Bool
  | .lok _ _ => false
  | .lokt _ _ => false
  | _ => true
section
variable {X : Cx} {e : Expr} {f : DE} {st : Stmt}
end
end Dn

/-! names set by the places of a list -/
namespace Dn
open PySem PySem.Spec PyProof.Rows L2
section
variable {X : Cx} {e : Expr} {es : List Expr}
end
end Dn

/-! sorted texts, comprehensions over a live dict, reversed ranges -/
namespace Dn
open PySem PySem.Spec PyProof.Rows L2
/-! ### texts in order -/
theorem lt_trans : ∀ a b c : List Nat, ltCps b a = false → ltCps c b = false → ltCps c a = false
  | [], _, [], _, _ => rfl
  | [], [], _ :: _, _, _ => rfl
  | [], _ :: _, _ :: _, _, _ => rfl
  | _ :: _, [], _, h, _ => by cases h
  | _ :: _, _ :: _, [], _, h => by cases h
  | x :: a, y :: b, z :: c, h, k => by
    unfold ltCps at h k ⊢
    simp only [Bool.or_eq_false_iff, decide_eq_false_iff_not, Bool.and_eq_false_imp, beq_iff_eq] at h k ⊢
    refine ⟨by omega, fun q => ?_⟩
    exact lt_trans a b c (h.2 (by omega)) (k.2 (by omega))
def leS (a b : Str) : Bool := !ltCps b.cps.toList a.cps.toList
def sortS (l : List Str) : List Str := l.mergeSort leS
/-! ### sorted -/
def keysS : List Key → Option (List Str)
  | [] => some []
  | .inr x :: ks => (match keysS ks with
    | some xs => some (x :: xs)
    | none => none)
  | _ => none
def srt (S : Sto) (x : DV) : Option (List Str) := match asL S x with
  | some ds => (match strsD ds with
    | some xs => if xs.length < 64 then some (sortS xs) else none
    | none => none)
  | none => (match asK S x with
    | some (ks, _) => (match keysS ks with
      | some xs => if xs.length < 64 then some (sortS xs) else none
      | none => none)
    | none => none)
/-! ### an expression that walks a dict: it is locked meanwhile -/
section
variable {X : Cx} {e : Expr} {f g : DE}
end
/-! ### a statement that walks a dict -/
section
variable {X : Cx} {st : Stmt} {f : DE} {s : DS}
end
/-! ### reversed(range(n)), range(i, j, c), text.index(sign) -/
section
variable {X : Cx} {e : Expr} {f g : DE} {fa : DA}
end
end Dn

/-! dicts with keys (number, truth) -/
namespace Dn
open PySem PySem.Spec PyProof.Rows L2

section
variable {P : Program} {w : World} {H : Hp} {h : Heap} {a b : Addr}
end
section
variable {X : Cx}
end

/-! ### over the store -/
section
variable {F : Fm} {S : Sto} {H : Hp}
end
section
variable {X : Cx} {e a b : Expr} {f g : DE} {pos : Pos} {st : Stmt}
end
end Dn

/-! tables of the module with text keys; {(i, b): v} -/
namespace Dn
open PySem PySem.Spec PyProof.Rows L2

/-! ### tables -/
section
variable {X : Cx} {e a b : Expr} {f g : DE} {pos p1 : Pos} {x : Str} {kvs : List (Str × He.Dv)}
end
/-! ### the head, with tables -/
/-! ### {(i, b): v} -/
section
variable {X : Cx} {k v : Expr} {tk tv : TE} {pos : Pos} {f g : DE}
end
end Dn

/-! sorted(set(xs)), len(set(xs)) -/
namespace Dn
open PySem PySem.Spec PyProof.Rows L2

/-! ### a set of numbers and texts whose table can be walked -/
structure KSe (P : Program) (w : World) (L : List (Key × Value)) (es : Array (Int × Value)) (t : SetTable) : Prop where
  perm : es.toList.Perm (L.map fun p => ((mixKind P w).hash p.1, p.2))
  is : ∀ p ∈ L, (mixKind P w).is p.1 p.2 = true ∧ p.2.scannable = true
  nd : (L.map (·.1)).Nodup
  few : L.length < scanBound
  fits : t.fits es.size = true
  ris : Ris t.place.toList
  led : w.params.followText "set-order" = true ∨ t.led = true
def KS (P : Program) (w : World) (h : Heap) (a : Addr) (L : List (Key × Value)) : Prop := ∃ o es ep t, h.get? a = some o ∧ o.ExactSet ∧ o.data = .set es ep t ∧ KSe P w L es t
section
variable {P : Program} {w : World} {L : List (Key × Value)} {es : Array (Int × Value)} {t : SetTable}
theorem KSe.size (K : KSe P w L es t) : es.size = L.length := by
  rw [← Array.length_toList, K.perm.length_eq, List.length_map]
theorem KS.at {h h' : Heap} {a : Addr} (R : KS P w h a L) (k : ∀ o, h.get? a = some o → h'.get? a = some o) : KS P w h' a L := by
  obtain ⟨o, es, ep, t, ho, r⟩ := R
  exact ⟨o, es, ep, t, k o ho, r⟩
end
section
variable {P : Program} {w : World} {A : Around} {E : Value → Shared → Prop} {s : Shared} {a : Addr}
end
end Dn

/-! sorted(set(xs)), len(set(xs)): the calls -/
namespace Dn
open PySem PySem.Spec PyProof.Rows L2
section
variable {P : Program} {w : World} {A : Around} {E : Value → Shared → Prop} {s : Shared}
end
end Dn

/-! sorted(set(xs)), len(set(xs)): the rules -/
namespace Dn
open PySem PySem.Spec PyProof.Rows L2
/-! ### sorted of the set at a -/
section
variable {P : Program} {w : World} {A : Around} {E : Value → Shared → Prop} {s : Shared} {a : Addr} {L : List (Key × Value)}
end
/-! ### the rules -/
section
variable {X : Cx}
end
/-! ### over the store -/
section
variable {X : Cx} {e a : Expr} {f : DE} {p p2 q pos : Pos}
end
end Dn

/-! x in (y, ..), data of any depth -/
namespace Dn
open PySem PySem.Spec PyProof.Rows L2
section
variable {X : Cx} {a b : Expr} {f g : DE} {pos : Pos}
end
end Dn

/-! (x, ..) * k -/
namespace Dn
open PySem PySem.Spec PyProof.Rows L2
section
variable {X : Cx}
end
end Dn

namespace Dn
open PySem PySem.Spec PyProof.Rows L2

/-! ### d.pop(k) -/
section
variable {X : Cx} {e a b o : Expr} {f g : DE} {fa : DA} {pos : Pos} {st : Stmt}
end

/-! ### min(d), its keys numbers -/
end Dn

/-! one step at a time -/
namespace Dn
open PySem PySem.Spec PyProof.Rows L2
section
variable {f g h : DE} {fa : DA} {s t : DS} {p : P2} {ρ ρ' : Ev} {S S1 S2 S3 S' : Sto} {i : Nat} {d x y z x' y' z' : DV} {pl F : PL} {xs ds : List DV} {o : Option Out} {r : Option (DV × Sto)}
theorem seq_nx (h : s ρ S = some (.nx ρ' S')) : dSeq s t ρ S = t ρ' S' := by rw [v_seq, h]
theorem seq_rt (h : s ρ S = some (.rt d S')) : dSeq s t ρ S = some (.rt d S') := by rw [v_seq, h]
theorem ifS_t (h : f ρ S = some (.bl true, S1)) : dIfS f s t ρ S = s ρ S1 := by rw [v_ifS, h]
theorem ifS_f (h : f ρ S = some (.bl false, S1)) : dIfS f s t ρ S = t ρ S1 := by rw [v_ifS, h]
theorem set_of (h : f ρ S = some (d, S1)) : dSet i f ρ S = some (.nx (ρ.set i (some d)) S1) := by rw [v_set, h]
theorem ret_of (h : f ρ S = some (d, S1)) : dRet f ρ S = some (.rt d S1) := by rw [v_ret, h]
theorem expr_of (h : f ρ S = some (d, S1)) : dExpr f ρ S = some (.nx ρ S1) := by rw [v_expr, h]
theorem bin_of (h1 : f ρ S = some (x, S1)) (h2 : g ρ S1 = some (y, S2)) (h3 : p x y S2 = r) : dBin p f g ρ S = r := by
  rw [v_bin, h1]
  simp only [h2, h3]
theorem prim_of (h1 : fa ρ S = some (xs, S1)) (h2 : pl xs S1 = r) : dPrim pl fa ρ S = r := by
  rw [v_prim, h1]
  simp only [h2]
theorem args1 (h1 : f ρ S = some (x, S1)) : aCons f aNil ρ S = some ([x], S1) := by
  rw [v_cons, h1]
  rfl
theorem args2 (h1 : f ρ S = some (x, S1)) (h2 : g ρ S1 = some (y, S2)) : aCons f (aCons g aNil) ρ S = some ([x, y], S2) := by
  rw [v_cons, h1]
  simp only [args1 h2]
theorem args3 (h1 : f ρ S = some (x, S1)) (h2 : g ρ S1 = some (y, S2)) (h3 : h ρ S2 = some (z, S3)) : aCons f (aCons g (aCons h aNil)) ρ S = some ([x, y, z], S3) := by
  rw [v_cons, h1]
  simp only [args2 h2 h3]
theorem argsC {xs : List DV} (h1 : f ρ S = some (x, S1)) (h2 : fa ρ S1 = some (xs, S2)) : aCons f fa ρ S = some (x :: xs, S2) := by
  rw [v_cons, h1]
  simp only [h2]
theorem callP (h1 : fa ρ S = some (xs, S1)) (hc : cpL true S1 xs = some ds) (hp : pureOf F ds = some d) : dPrim (cP (pureOf F) []) fa ρ S = some (d, S1) := by
  rw [v_prim, h1]
  simp only [cP_eq, hc, hp]
theorem callPP (h1 : fa ρ S = some (xs, S1)) (hc : plainL xs = true) (hp : pureOf F xs = some d) : dPrim (cP (pureOf F) []) fa ρ S = some (d, S1) := callP h1 (cpL_plain hc) hp
theorem callS (h1 : fa ρ S = some (xs, S1)) (hp : F xs S1 = r) : dPrim (cS F []) fa ρ S = r := by
  rw [v_prim, h1]
  show F (xs ++ []) S1 = r
  rw [List.append_nil, hp]
theorem and_t (h1 : f ρ S = some (.bl true, S1)) (h2 : g ρ S1 = r) : dAnd f g ρ S = r := by
  rw [v_and, h1]
  simp only [h2]
theorem and_f (h1 : f ρ S = some (.bl false, S1)) : dAnd f g ρ S = some (.bl false, S1) := by rw [v_and, h1]
theorem or_t (h1 : f ρ S = some (.bl true, S1)) : dOr f g ρ S = some (.bl true, S1) := by rw [v_or, h1]
theorem or_f (h1 : f ρ S = some (.bl false, S1)) (h2 : g ρ S1 = r) : dOr f g ρ S = r := by
  rw [v_or, h1]
  simp only [h2]
theorem and_b {a b : Bool} (h1 : f ρ S = some (.bl a, S1)) (h2 : g ρ S1 = some (.bl b, S1)) : dAnd f g ρ S = some (.bl (a && b), S1) := by
  cases a with
  | true => exact and_t h1 h2
  | false => exact and_f h1
theorem or_b {a b : Bool} (h1 : f ρ S = some (.bl a, S1)) (h2 : g ρ S1 = some (.bl b, S1)) : dOr f g ρ S = some (.bl (a || b), S1) := by
  cases a with
  | true => exact or_t h1
  | false => exact or_f h1 h2
theorem not_of {a : Bool} (h1 : f ρ S = some (.bl a, S1)) : dNot f ρ S = some (.bl (!a), S1) := by rw [v_not, h1]
theorem for_of {it : DI} {gt : DG} (h1 : it ρ S = some (ds, S1)) (h2 : forL gt s ds ρ S1 = o) : dFor it gt s ρ S = o := by
  rw [v_for, h1]
  simp only [h2]
theorem run_rt {np n : Nat} {b : DS} (hl : xs.length = np) (h1 : b (xs.map some ++ List.replicate (n - xs.length) none) S = some (.rt d S')) : runF np n b xs S = some (d, S') := by
  unfold runF
  rw [if_pos hl, h1]
theorem run_nx {np n : Nat} {b : DS} (hl : xs.length = np) (h1 : b (xs.map some ++ List.replicate (n - xs.length) none) S = some (.nx ρ' S')) : runF np n b xs S = some (.non, S') := by
  unfold runF
  rw [if_pos hl, h1]
theorem sub_of {k : DV} (h1 : f ρ S = some (y, S1)) (h2 : g ρ S1 = some (x, S2)) (h3 : h ρ S2 = some (k, S3)) (h4 : setI x k y S3 = some S') : dSub f g h ρ S = some (.nx ρ S') := by
  unfold dSub
  simp only [h1, h2, h3, h4]
end
end Dn

/-! loops as folds -/
namespace Dn
open PySem PySem.Spec PyProof.Rows L2
theorem for_fold0 {α β : Type} {D : α → DV} {g : DG} {body : DS} {I : Nat → β → Ev → Prop} {st : β → Sto} {f : β → α → β} : ∀ (K : List α) (k : Nat) (b : β) (ρ : Ev), I k b ρ →
    (∀ (i : Nat) (a : α), K[i]? = some a → ∀ b ρ, I (k + i) b ρ → ∃ ρ1 S1 ρ2, g (D a) ρ (st b) = some (ρ1, S1) ∧ (body ρ1 S1 = some (.nx ρ2 (st (f b a))) ∨ body ρ1 S1 = some (.ct ρ2 (st (f b a)))) ∧ I (k + i + 1) (f b a) ρ2) →
    ∃ ρ', forL g body (K.map D) ρ (st b) = some (.nx ρ' (st (K.foldl f b))) ∧ I (k + K.length) (K.foldl f b) ρ'
  | [], k, b, ρ, h, _ => ⟨ρ, rfl, h⟩
  | a :: K, k, b, ρ, h, hs => by
    obtain ⟨ρ1, S1, ρ2, h1, h2, h3⟩ := hs 0 a rfl b ρ h
    obtain ⟨ρ', h4, h5⟩ := for_fold0 (D := D) (g := g) (body := body) (I := I) (st := st) (f := f) K (k + 1) (f b a) ρ2 h3 fun i a' ha b ρ hb => by
      have := hs (i + 1) a' ha b ρ (by rw [show k + (i + 1) = k + 1 + i by omega]; exact hb)
      rw [show k + (i + 1) + 1 = k + 1 + i + 1 by omega] at this
      exact this
    refine ⟨ρ', ?_, by rw [List.length_cons, List.foldl_cons, show k + (K.length + 1) = k + 1 + K.length by omega]; exact h5⟩
    rw [List.map_cons, List.foldl_cons, ← h4]
    conv => lhs; unfold forL
    simp only [h1]
    rcases h2 with h2 | h2 <;> rw [h2]
/-- a loop that keeps a state: I at each turn -/
theorem for_fold {α β : Type} {D : α → DV} {g : DG} {body : DS} {I : Nat → β → Ev → Prop} {st : β → Sto} {f : β → α → β} (K : List α) (b : β) (ρ : Ev) (h : I 0 b ρ)
    (hs : ∀ (i : Nat) (a : α), K[i]? = some a → ∀ b ρ, I i b ρ → ∃ ρ1 S1 ρ2, g (D a) ρ (st b) = some (ρ1, S1) ∧ (body ρ1 S1 = some (.nx ρ2 (st (f b a))) ∨ body ρ1 S1 = some (.ct ρ2 (st (f b a)))) ∧ I (i + 1) (f b a) ρ2) :
    ∃ ρ', forL g body (K.map D) ρ (st b) = some (.nx ρ' (st (K.foldl f b))) ∧ I K.length (K.foldl f b) ρ' := by
  have := for_fold0 (D := D) (g := g) (body := body) (I := I) (st := st) (f := f) K 0 b ρ h fun i a ha b ρ hb => by
    rw [Nat.zero_add] at hb ⊢
    exact hs i a ha b ρ hb
  rwa [Nat.zero_add] at this
/-- a loop that puts behind a list: one thing each turn -/
theorem for_app {α : Type} {D E : α → DV} {g : DG} {body : DS} {I : Ev → Prop} {st : List DV → Sto} (m : Nat) (K : List α) (acc : List DV) (ρ : Ev) (h : I ρ) (hz : acc.length + K.length ≤ m)
    (hs : ∀ a ∈ K, ∀ (b : List DV) ρ, b.length < m → I ρ → ∃ ρ1 S1 ρ2, g (D a) ρ (st b) = some (ρ1, S1) ∧ body ρ1 S1 = some (.nx ρ2 (st (b ++ [E a]))) ∧ I ρ2) :
    ∃ ρ', forL g body (K.map D) ρ (st acc) = some (.nx ρ' (st (acc ++ K.map E))) ∧ I ρ' := by
  obtain ⟨ρ', h1, h2, h3⟩ := for_fold (D := D) (g := g) (body := body) (I := fun i b ρ => b.length = acc.length + i ∧ I ρ) (st := st) (f := fun b a => b ++ [E a]) K acc ρ ⟨rfl, h⟩ fun i a ha b ρ hb => by
    have hi := (List.getElem?_eq_some_iff.mp ha).1
    obtain ⟨ρ1, S1, ρ2, a1, a2, a3⟩ := hs a (List.mem_of_getElem? ha) b ρ (by omega) hb.2
    exact ⟨ρ1, S1, ρ2, a1, .inl a2, by rw [List.length_append, List.length_singleton]; omega, a3⟩
  have e : ∀ (K : List α) (acc : List DV), K.foldl (fun b a => b ++ [E a]) acc = acc ++ K.map E := by
    intro K
    induction K with
    | nil => intro acc; rw [List.map_nil, List.append_nil] <;> rfl
    | cons a K ih => intro acc; rw [List.foldl_cons, ih, List.map_cons, List.append_assoc] <;> rfl
  rw [e] at h1
  exact ⟨ρ', h1, h3⟩
theorem append_of {f e : DE} {ρ : Ev} {S : Sto} {n : Nat} {xs : List DV} {y : DV} (h1 : f ρ S = some (.loc n, S)) (hn : S[n]? = some (.lst xs)) (h2 : e ρ S = some (y, S)) (hz : xs.length < 16777216) :
    dExpr (dMt pAppend f (aCons e aNil)) ρ S = some (.nx ρ (S.set n (.lst (xs ++ [y])))) := by
  rw [v_expr, v_mt, h1]
  simp only [asL_loc hn, args1 h2, app_loc hn hz]
theorem choose_lt {α : Type} {n : Nat} {P : Nat → α → Prop} (d : α) (h : ∀ k, k < n → ∃ x, P k x) : ∃ f : Nat → α, ∀ k, k < n → P k (f k) :=
  ⟨fun k => if hk : k < n then Classical.choose (h k hk) else d, fun k hk => by
    simp only [dif_pos hk]
    exact Classical.choose_spec (h k hk)⟩
end Dn

/-! more of loops and lists -/
namespace Dn
open PySem PySem.Spec PyProof.Rows L2
section
variable {f g : DE} {ρ : Ev} {S S1 S2 : Sto}
theorem rgN_of {n : Nat} (h : f ρ S = some (.int (n : Nat), S1)) (hz : n < 1000000) : iRange1 (aCons f aNil) ρ S = some ((List.range n).map fun (i : Nat) => DV.int i, S1) := by
  unfold iRange1
  rw [args1 h]
  simp only
  rw [if_pos (by omega), Int.toNat_natCast]
  unfold rgD
  refine congrArg some (congrArg (·, S1) (List.map_congr_left fun i _ => ?_))
  rw [Int.zero_add]
theorem lenL_of {k : LK} {xs : List DV} (h : f ρ S = some (.lst k xs, S1)) : dPrim pLen (aCons f aNil) ρ S = some (.int (xs.length : Nat), S1) := prim_of (args1 h) (by cases k <;> rfl)
theorem lenT_of {xs : List DV} (h : f ρ S = some (.tup xs, S1)) : dPrim pLen (aCons f aNil) ρ S = some (.int (xs.length : Nat), S1) := prim_of (args1 h) rfl
theorem tupL_of {k : LK} {xs : List DV} (h : f ρ S = some (.lst k xs, S1)) : dPrim pTuple (aCons f aNil) ρ S = some (.tup xs, S1) := prim_of (args1 h) (by cases k <;> rfl)
theorem strsD_of : ∀ xs : List Str, strsD (xs.map .str) = some xs
  | [] => rfl
  | x :: xs => by
    show (match strsD (xs.map DV.str) with | some ys => some (x :: ys) | none => none) = _
    rw [strsD_of xs]
theorem iSeqL_of {k : LK} {xs : List DV} (h : f ρ S = some (.lst k xs, S1)) : iSeq f ρ S = some (xs, S1) := by
  rw [iSeq_eq, h]
theorem iSeqT_of {xs : List DV} (h : f ρ S = some (.tup xs, S1)) : iSeq f ρ S = some (xs, S1) := by
  rw [iSeq_eq, h]
/-- a comprehension of all -/
theorem lc_all {α : Type} {D E : α → DV} {g : DG} {c fe : DE} : ∀ {K : List α}, (∀ b ∈ K, ∃ ρ1, g (D b) ρ S = some (ρ1, S) ∧ c ρ1 S = some (.bl true, S) ∧ fe ρ1 S = some (E b, S)) → lcL g c fe ρ (K.map D) S = some (K.map E, S)
  | [], _ => rfl
  | b :: K, h => by
    obtain ⟨ρ1, h1, h2, h3⟩ := h b List.mem_cons_self
    rw [List.map_cons]
    unfold lcL
    simp only [h1, h2, h3, lc_all fun b hb => h b (List.mem_cons_of_mem _ hb)]
    rfl
/-- and of those that are so -/
theorem lc_filt {α : Type} {D E : α → DV} {p : α → Bool} {g : DG} {c fe : DE} : ∀ {K : List α}, (∀ b ∈ K, ∃ ρ1, g (D b) ρ S = some (ρ1, S) ∧ c ρ1 S = some (.bl (p b), S) ∧ (p b = true → fe ρ1 S = some (E b, S))) → lcL g c fe ρ (K.map D) S = some ((K.filter p).map E, S)
  | [], _ => rfl
  | b :: K, h => by
    obtain ⟨ρ1, h1, h2, h3⟩ := h b List.mem_cons_self
    have ih := lc_filt (K := K) fun b hb => h b (List.mem_cons_of_mem _ hb)
    rw [List.map_cons, List.filter_cons]
    unfold lcL
    simp only [h1, h2]
    cases q : p b with
    | true =>
      simp only [h3 q, ih]
      rfl
    | false => simpa using ih
end
end Dn

/-! sorted(..) of numbers -/
namespace Dn
open PySem PySem.Spec PyProof.Rows L2
end Dn

/-! text * number -/
namespace Dn
open PySem PySem.Spec PyProof.Rows L2
def rMulS : R2 := fun x y H Q => ∃ (s : Str) (k : Int), x = .str s ∧ y = .int k ∧ 0 ≤ k ∧ k ≤ 1000 ∧ s.length ≤ 1000 ∧ Q (.str (Txt.mul s k)) H
section
variable {X : Cx}
theorem op_mulS : OpR X (binaryOp .Mult) rMulS := by
  intro pins s σ H x y v u Q I rx ry h
  obtain ⟨a, k, rfl, rfl, h1, h2, h3, q⟩ := h
  obtain ⟨t, rfl⟩ := rx
  obtain ⟨t', rfl⟩ := ry
  exact SB.mul (mulOk_of 1000 1000 h3 (by omega) (by omega) (by decide) (by decide)) fun t' k => ⟨.str _, H, I.tok _, ⟨_, rfl⟩, q⟩
def pMulS : P2 := fun x y S => match x, y with
  | .str s, .int k => if 0 ≤ k ∧ k ≤ 1000 ∧ s.length ≤ 1000 then some (.str (Txt.mul s k), S) else none
  | _, _ => none
theorem ok_mulS {K : PySem.W.Frag} : Ok2 K pMulS rMulS := fun F S H x y vx vy d S' Q hk R rx ry hp hq => by
  unfold pMulS at hp
  split at hp
  · rename_i s k
    obtain ⟨⟨h1, h2, h3⟩, hp⟩ := of_ite hp
    cases hp
    have ex := (show vx = .str s from rx)
    have ey := (show vy = .int k from ry)
    subst ex
    subst ey
    exact ⟨s, k, rfl, rfl, h1, h2, h3, hq F H _ (.refl F) R rfl⟩
  · cases hp
theorem ed_mulS {a b : Expr} {f g : DE} {pos : Pos} (ha : ED X a f) (hb : ED X b g) : ED X (.BinOp a .Mult b pos) (dBin pMulS f g) := ed_bin op_mulS ok_mulS ha hb
end
end Dn

/-! a comprehension over a list that stays -/
namespace Dn
open PySem PySem.Spec PyProof.Rows L2
theorem addI_of {f g : DE} {ρ : Ev} {S S1 S2 : Sto} {a b : Int} (h1 : f ρ S = some (.int a, S1)) (h2 : g ρ S1 = some (.int b, S2)) : dBin pAdd f g ρ S = some (.int (a + b), S2) := bin_of h1 h2 rfl
theorem subI_of {f g : DE} {ρ : Ev} {S S1 S2 : Sto} {a b : Int} (h1 : f ρ S = some (.int a, S1)) (h2 : g ρ S1 = some (.int b, S2)) : dBin pSub f g ρ S = some (.int (a - b), S2) := bin_of h1 h2 rfl
theorem modI_of {f g : DE} {ρ : Ev} {S S1 S2 : Sto} {a b : Int} (h1 : f ρ S = some (.int a, S1)) (h2 : g ρ S1 = some (.int b, S2)) (hb : 0 < b) : dBin pMod f g ρ S = some (.int (a % b), S2) := bin_of h1 h2 (v_modI hb)
end Dn

/-! list(reversed(a list)) -/
namespace RT
open PySem PySem.Spec PyProof.Rows
section
variable {prog : Program} {w : World} {A : Around} {E : Value → Shared → Prop} {s : Shared}
end
section
variable {prog : Program} {w : World} {A : Around} {E : Value → Shared → Prop} {s : Shared}
end
end RT
namespace Dn
open PySem PySem.Spec PyProof.Rows L2 RT
section
variable {X : Cx}
end
end Dn

/-! list(range(i, j)) -/
namespace Dn
open PySem PySem.Spec PyProof.Rows L2
section
variable {X : Cx}
end
end Dn

/-! x in [y, ..], data of any depth -/
namespace Dn
open PySem PySem.Spec PyProof.Rows L2
section
variable {X : Cx} {a b : Expr} {f g : DE} {pos : Pos}
end
end Dn

/-! max(a list of numbers, default=d) -/
namespace Dn
open PySem PySem.Spec PyProof.Rows L2
section
variable {prog : Program} {w : World} {A : Around} {R : Result → Shared → Prop} {I : Addr} {fp wr : List Addr} {G : Array GenState → Array GenState → Prop} {n : Nat} {P : Nat → Value → Prop} {St : Nat → Shared → Prop}
end
section
variable {prog : Program} {w : World} {A : Around} {E : Value → Shared → Prop} {s : Shared} {l : Addr} {its : List Value} {ns : List Int} {Q : Value → Shared → Prop}
end
section
variable {X : Cx}
/-- a denotation that tells nothing is sound of itself (for the bottom of a recursion) -/
theorem SDs.none {st : List Stmt} : SDs X st (fun _ _ => Option.none) := ⟨⟨fun _ _ _ _ _ _ ⟨_, _, _, _, _, _, _, hf, _⟩ => by cases hf⟩⟩
end
end Dn

/-! one of several classes; fields as targets; makers without a def; isinstance of own classes; dict(..) -/
namespace Dn
open PySem PySem.Spec PyProof.Rows L2
def orD (f g : DE) : DE := fun ρ S => match f ρ S with
  | some r => some r
  | none => g ρ S
@[simp] theorem v_orD {f g : DE} {ρ : Ev} {S : Sto} : orD f g ρ S = (match f ρ S with | some r => some r | none => g ρ S) := (rfl)
/-! ### a field as a target -/
/-! ### C() without an __init__ -/
/-! ### isinstance(x, C), C a class of the text -/
/-! ### dict(pairs) -/
end Dn

/-! a part of the store, cell by cell; dicts as lists of pairs -/
namespace Dn
open PySem PySem.Spec PyProof.Rows L2
abbrev Cs := List (Nat × Cell)
structure AtS (S : Sto) (l : Cs) : Prop where
  nd : (l.map (·.1)).Nodup
  get : ∀ p ∈ l, S[p.1]? = some p.2
theorem AtS.at {S : Sto} {l : Cs} (A : AtS S l) (k : Nat) {a : Nat} {c : Cell} (h : l[k]? = some (a, c) := by rfl) : S[a]? = some c := A.get (a, c) (List.mem_of_getElem? h)
theorem AtS.ext {S S' : Sto} {l : Cs} (A : AtS S l) (h : ∀ a ∈ l.map (·.1), S'[a]? = S[a]?) : AtS S' l :=
  ⟨A.nd, fun p hp => by rw [h p.1 (List.mem_map_of_mem hp)]; exact A.get p hp⟩
theorem AtS.lt {S : Sto} {l : Cs} (A : AtS S l) {a : Nat} (h : a ∈ l.map (·.1)) : a < S.length := by
  obtain ⟨p, hp, rfl⟩ := List.mem_map.mp h
  exact (List.getElem?_eq_some_iff.mp (A.get p hp)).1
/-- from a part to a part: what else was there stays -/
structure Stp (S : Sto) (l : Cs) (S' : Sto) (l' : Cs) : Prop where
  at_ : AtS S' l'
  len : S.length ≤ S'.length
  fr : ∀ i, i < S.length → i ∉ l.map (·.1) → S'[i]? = S[i]?
  fp : ∀ a ∈ l'.map (·.1), a ∈ l.map (·.1) ∨ S.length ≤ a
  nl : S.all notLok = true → S'.all notLok = true
theorem Stp.refl {S : Sto} {l : Cs} (A : AtS S l) : Stp S l S l := ⟨A, Nat.le_refl _, fun _ _ _ => rfl, fun _ h => .inl h, fun h => h⟩
theorem Stp.trans {S S1 S2 : Sto} {l l1 l2 : Cs} (a : Stp S l S1 l1) (b : Stp S1 l1 S2 l2) : Stp S l S2 l2 :=
  ⟨b.at_, Nat.le_trans a.len b.len, fun i h hi => (b.fr i (Nat.lt_of_lt_of_le h a.len) fun q => (a.fp i q).elim hi fun z => absurd h (by omega)).trans (a.fr i h hi),
    fun x hx => (b.fp x hx).elim (a.fp x) fun z => .inr (Nat.le_trans a.len z), fun h => b.nl (a.nl h)⟩
theorem map_fst_set {l : Cs} {k a : Nat} {c c' : Cell} (h : l[k]? = some (a, c)) : (l.set k (a, c')).map (·.1) = l.map (·.1) := by
  rw [List.map_set]
  obtain ⟨h1, h2⟩ := List.getElem?_eq_some_iff.mp h
  refine List.ext_getElem? fun i => ?_
  rw [List.getElem?_set]
  split
  · rename_i q
    subst q
    rw [if_pos (by rw [List.length_map]; exact h1), List.getElem?_map, h] <;> rfl
  · rfl
theorem all_set {S : Sto} {a : Nat} {c : Cell} (h : S.all notLok = true) (hc : notLok c = true) : (S.set a c).all notLok = true :=
  List.all_eq_true.mpr fun x hx => (List.mem_or_eq_of_mem_set hx).elim (List.all_eq_true.mp h x) fun e => by rw [e]; exact hc
/-- a cell is written -/
theorem Stp.set {S : Sto} {l : Cs} (A : AtS S l) (k : Nat) {a : Nat} {c : Cell} (c' : Cell) (h : l[k]? = some (a, c) := by rfl) (hc : notLok c' = true := by rfl) : Stp S l (S.set a c') (l.set k (a, c')) := by
  have hl := A.lt (a := a) (List.mem_map.mpr ⟨_, List.mem_of_getElem? h, rfl⟩)
  have hk := (List.getElem?_eq_some_iff.mp h).1
  refine ⟨⟨by rw [map_fst_set h]; exact A.nd, fun p hp => ?_⟩, by rw [List.length_set]; exact Nat.le_refl _, fun i _ hi => ?_, fun x hx => .inl (by rw [map_fst_set h] at hx; exact hx), fun q => all_set q hc⟩
  · obtain ⟨i, hi⟩ := List.getElem?_of_mem hp
    rw [List.getElem?_set] at hi
    split at hi
    · rename_i q
      subst q
      have hi := Option.some.inj hi
      rw [← hi]
      exact List.getElem?_set_self hl
    · rename_i q
      have hne : a ≠ p.1 := fun e => by
        have n := List.pairwise_iff_getElem.mp A.nd
        have i1 := (List.getElem?_eq_some_iff.mp hi).1
        have e1 : (l.map (·.1))[k]? = some a := by rw [List.getElem?_map, h] <;> rfl
        have e2 : (l.map (·.1))[i]? = some p.1 := by rw [List.getElem?_map, hi] <;> rfl
        obtain ⟨g1, g2⟩ := List.getElem?_eq_some_iff.mp e1
        obtain ⟨g3, g4⟩ := List.getElem?_eq_some_iff.mp e2
        rcases Nat.lt_or_gt_of_ne q with z | z
        · exact n k i g1 g3 z (by rw [g2, g4]; exact e)
        · exact n i k g3 g1 z (by rw [g2, g4]; exact e.symm)
      rw [List.getElem?_set_ne hne]
      exact A.get p (List.mem_of_getElem? hi)
  · rw [List.getElem?_set_ne fun e => hi (by rw [← e]; exact List.mem_map.mpr ⟨_, List.mem_of_getElem? h, rfl⟩)]
/-- a new cell in the place of one -/
theorem Stp.new {S : Sto} {l : Cs} (A : AtS S l) (k : Nat) (c : Cell) (hc : notLok c = true := by rfl) : Stp S l (S ++ [c]) (l.set k (S.length, c)) := by
  have old : ∀ {a : Nat}, a ∈ l.map (·.1) → (S ++ [c])[a]? = S[a]? := fun {a} h => List.getElem?_append_left (A.lt h)
  refine ⟨⟨?_, fun p hp => ?_⟩, by rw [List.length_append]; omega, fun i h _ => List.getElem?_append_left h, fun x hx => ?_, fun h => by rw [List.all_append, h]; simp [hc]⟩
  · rw [List.map_set]
    refine List.pairwise_iff_getElem.mpr fun i j hi hj hij => ?_
    rw [List.length_set] at hi hj
    have hi' : i < l.length := by rw [List.length_map] at hi; exact hi
    have hj' : j < l.length := by rw [List.length_map] at hj; exact hj
    have lt : ∀ {i : Nat} (h : i < (l.map (·.1)).length), (l.map (·.1))[i]'h < S.length := fun {i} h => A.lt (List.getElem_mem h)
    rw [List.getElem_set, List.getElem_set]
    split
    · split
      · omega
      · exact Nat.ne_of_gt (lt hj)
    · split
      · exact Nat.ne_of_lt (lt hi)
      · exact List.pairwise_iff_getElem.mp A.nd i j hi hj hij
  · rcases List.mem_or_eq_of_mem_set hp with h | h
    · rw [old (List.mem_map_of_mem h)]
      exact A.get p h
    · rw [h]
      rw [List.getElem?_append_right (Nat.le_refl _), Nat.sub_self]
      rfl
  · obtain ⟨p, hp, rfl⟩ := List.mem_map.mp hx
    rcases List.mem_or_eq_of_mem_set hp with h | h
    · exact .inl (List.mem_map_of_mem h)
    · rw [h]
      exact .inr (Nat.le_refl _)
theorem AtS.ne {S : Sto} {l : Cs} (A : AtS S l) (i j : Nat) {a b : Nat} {c d : Cell} (hi : l[i]? = some (a, c) := by rfl) (hj : l[j]? = some (b, d) := by rfl) (h : i ≠ j := by decide) : a ≠ b := fun e => by
  have e1 : (l.map (·.1))[i]? = some a := by rw [List.getElem?_map, hi] <;> rfl
  have e2 : (l.map (·.1))[j]? = some b := by rw [List.getElem?_map, hj] <;> rfl
  obtain ⟨g1, g2⟩ := List.getElem?_eq_some_iff.mp e1
  obtain ⟨g3, g4⟩ := List.getElem?_eq_some_iff.mp e2
  rcases Nat.lt_or_gt_of_ne h with z | z
  · exact List.pairwise_iff_getElem.mp A.nd i j g1 g3 z (by rw [g2, g4]; exact e)
  · exact List.pairwise_iff_getElem.mp A.nd j i g3 g1 z (by rw [g2, g4]; exact e.symm)
/-- others' cells -/
theorem Stp.other {S S' : Sto} {l l' m : Cs} (T : Stp S l S' l') (B : AtS S m) (h : ∀ a ∈ m.map (·.1), a ∉ l.map (·.1)) : AtS S' m := B.ext fun a ha => T.fr a (B.lt ha) (h a ha)
theorem Stp.apart {S S' : Sto} {l l' m : Cs} (T : Stp S l S' l') (B : AtS S m) (h : ∀ a ∈ m.map (·.1), a ∉ l.map (·.1)) : ∀ a ∈ m.map (·.1), a ∉ l'.map (·.1) := fun a ha q =>
  (T.fp a q).elim (h a ha) fun z => absurd (B.lt ha) (by omega)
/-- what lies beside stays too -/
theorem Stp.sub {S S' : Sto} {l l' m : Cs} (T : Stp S l S' l') (A : AtS S (l ++ m)) : Stp S (l ++ m) S' (l' ++ m) := by
  have nd := A.nd
  rw [List.map_append] at nd
  obtain ⟨n1, n2, n3⟩ := List.nodup_append.mp nd
  have B : AtS S m := ⟨n2, fun p hp => A.get p (List.mem_append_right _ hp)⟩
  have ap : ∀ a ∈ m.map (·.1), a ∉ l.map (·.1) := fun a ha q => n3 a q a ha rfl
  have B' := T.other B ap
  refine ⟨⟨?_, fun p hp => ?_⟩, T.len, fun i h hi => T.fr i h fun q => hi (by rw [List.map_append]; exact List.mem_append_left _ q), fun a ha => ?_, T.nl⟩
  · rw [List.map_append]
    exact List.nodup_append.mpr ⟨T.at_.nd, n2, fun a ha b hb e => T.apart B ap b hb (by rw [← e]; exact ha)⟩
  · rcases List.mem_append.mp hp with h | h
    · exact T.at_.get p h
    · exact B'.get p h
  · rw [List.map_append] at ha ⊢
    rcases List.mem_append.mp ha with h | h
    · exact (T.fp a h).imp (List.mem_append_left _) id
    · exact .inl (List.mem_append_right _ h)
theorem Stp.beside {S S' : Sto} {m l' : Cs} (T : Stp S [] S' l') (A : AtS S m) : Stp S m S' (m ++ l') := by
  have A' : AtS S ([] ++ m) := A
  have T' := T.sub A'
  have B := T'.at_
  refine ⟨⟨?_, fun p hp => B.get p (List.mem_append.mpr (List.mem_append.mp hp).symm)⟩, T.len, fun i h hi => T.fr i h (fun q => by cases q), fun x hx => ?_, T.nl⟩
  · have := B.nd
    rw [List.map_append] at this ⊢
    obtain ⟨n1, n2, n3⟩ := List.nodup_append.mp this
    exact List.nodup_append.mpr ⟨n2, n1, fun a ha b hb e => n3 b hb a ha e.symm⟩
  · rw [List.map_append] at hx
    rcases List.mem_append.mp hx with h | h
    · exact .inl h
    · rcases T.fp x h with q | q
      · cases q
      · exact .inr q
/-! ### dicts as lists of pairs -/
section
variable {κ κ' α β : Type} [DecidableEq κ] [DecidableEq κ']
def agt : List (κ × α) → κ → Option α
  | [], _ => none
  | p :: l, k => if p.1 = k then some p.2 else agt l k
def ahas (l : List (κ × α)) (k : κ) : Bool := l.any fun p => decide (p.1 = k)
def apt (l : List (κ × α)) (k : κ) (v : α) : List (κ × α) := if ahas l k = true then l.map fun p => if p.1 = k then (p.1, v) else p else l ++ [(k, v)]
theorem agt_cons {p : κ × α} {l : List (κ × α)} {k : κ} : agt (p :: l) k = if p.1 = k then some p.2 else agt l k := rfl
theorem ahas_cons {p : κ × α} {l : List (κ × α)} {k : κ} : ahas (p :: l) k = (decide (p.1 = k) || ahas l k) := rfl
theorem agt_none {l : List (κ × α)} {k : κ} : agt l k = none ↔ ahas l k = false := by
  induction l with
  | nil => simp [agt, ahas]
  | cons p l ih =>
    rw [agt_cons, ahas_cons]
    by_cases q : p.1 = k
    · simp [q]
    · rw [if_neg q, ih]
      simp [q]
theorem agt_app {l m : List (κ × α)} {k : κ} : agt (l ++ m) k = (agt l k).or (agt m k) := by
  induction l with
  | nil => simp [agt]
  | cons p l ih =>
    rw [List.cons_append, agt_cons, agt_cons]
    by_cases q : p.1 = k
    · simp [q]
    · rw [if_neg q, if_neg q, ih]
theorem agt_apt {l : List (κ × α)} {k k' : κ} {v : α} : agt (apt l k v) k' = if k = k' then some v else agt l k' := by
  unfold apt
  by_cases q : ahas l k = true
  · rw [if_pos q]
    have key : ∀ l : List (κ × α), agt (l.map fun p => if p.1 = k then (p.1, v) else p) k' = if k = k' then (if ahas l k = true then some v else none) else agt l k' := fun l => by
      induction l with
      | nil => simp [agt, ahas]
      | cons p l ih =>
        rw [List.map_cons, agt_cons, agt_cons, ahas_cons, ih]
        by_cases z : p.1 = k
        · by_cases z2 : k = k'
          · simp [z, z2]
          · have : ¬ p.1 = k' := fun e => z2 (z.symm.trans e)
            rw [if_pos z]
            simp [z2, this]
        · rw [if_neg z]
          by_cases z2 : k = k'
          · subst z2
            simp [z]
          · simp [z2]
    rw [key l, q]
    simp
  · rw [if_neg q, agt_app]
    by_cases z : k = k'
    · subst z
      rw [if_pos rfl, agt_none.mpr (Bool.eq_false_iff.mpr q)]
      simp [agt]
    · rw [if_neg z]
      simp [agt, z]
theorem apt_len {l : List (κ × α)} {k : κ} {v : α} : (apt l k v).length ≤ l.length + 1 := by
  unfold apt
  split
  · rw [List.length_map]
    omega
  · rw [List.length_append] <;> simp
theorem apt_keys {l : List (κ × α)} {k : κ} {v : α} (h : ahas l k = true) : (apt l k v).map (·.1) = l.map (·.1) := by
  unfold apt
  rw [if_pos h, List.map_map]
  refine List.map_congr_left fun p _ => ?_
  show (if p.1 = k then (p.1, v) else p).1 = p.1
  split <;> rfl
theorem ahas_of {l : List (κ × α)} {k : κ} (h : k ∈ l.map (·.1)) : ahas l k = true := by
  obtain ⟨p, hp, rfl⟩ := List.mem_map.mp h
  exact List.any_eq_true.mpr ⟨p, hp, decide_eq_true rfl⟩
theorem ahas_iff {l : List (κ × α)} {k : κ} : ahas l k = true ↔ k ∈ l.map (·.1) := by
  refine ⟨fun h => ?_, ahas_of⟩
  obtain ⟨p, hp, e⟩ := List.any_eq_true.mp h
  exact List.mem_map.mpr ⟨p, hp, of_decide_eq_true e⟩
theorem apt_mem {P : κ × α → Prop} {l : List (κ × α)} {k : κ} {v : α} (h : ∀ p ∈ l, P p) (hv : P (k, v)) : ∀ p ∈ apt l k v, P p := by
  intro p hp
  unfold apt at hp
  split at hp
  · obtain ⟨q, hq, rfl⟩ := List.mem_map.mp hp
    split
    · rename_i e
      rw [e]
      exact hv
    · exact h q hq
  · rcases List.mem_append.mp hp with e | e
    · exact h p e
    · rw [List.mem_singleton.mp e]
      exact hv
theorem agt_mem {l : List (κ × α)} {k : κ} {v : α} (h : agt l k = some v) : (k, v) ∈ l := by
  induction l with
  | nil => cases h
  | cons p l ih =>
    unfold agt at h
    split at h
    · rename_i e
      cases h
      rw [← e]
      exact List.mem_cons_self
    · exact List.mem_cons_of_mem _ (ih h)
theorem apt_nd {l : List (κ × α)} {k : κ} {v : α} (h : (l.map (·.1)).Nodup) : ((apt l k v).map (·.1)).Nodup := by
  by_cases q : ahas l k = true
  · rw [apt_keys q]
    exact h
  · unfold apt
    rw [if_neg q, List.map_append]
    refine List.nodup_append.mpr ⟨h, List.nodup_cons.mpr ⟨List.not_mem_nil, List.nodup_nil⟩, fun a ha b hb e => ?_⟩
    rw [List.mem_singleton.mp hb] at e
    have e : a = k := e
    rw [e] at ha
    exact q (ahas_of ha)
variable {e : κ → κ'} {f : α → DV}
theorem has_al (he : ∀ a b, e a = e b → a = b) {l : List (κ × α)} {k : κ} : hasK (l.map fun p => e p.1) (e k) = ahas l k := by
  induction l with
  | nil => rfl
  | cons p l ih =>
    unfold hasK ahas at *
    rw [List.map_cons, List.any_cons, List.any_cons, ih]
    congr 1
    exact decide_eq_decide.mpr ⟨he _ _, fun h => by rw [h]⟩
theorem putKs_al (he : ∀ a b, e a = e b → a = b) {l : List (κ × α)} {k : κ} {v : α} : putKs (l.map fun p => e p.1) (e k) = (apt l k v).map fun p => e p.1 := by
  unfold putKs
  rw [has_al he]
  by_cases q : ahas l k = true
  · rw [if_pos q]
    have := congrArg (List.map e) (apt_keys (v := v) q)
    rw [List.map_map, List.map_map] at this
    exact this.symm
  · rw [if_neg q]
    unfold apt
    rw [if_neg q, List.map_append]
    rfl
theorem putVs_al (he : ∀ a b, e a = e b → a = b) {l : List (κ × α)} {k : κ} {v : α} : putVs (l.map fun p => e p.1) (l.map fun p => f p.2) (e k) (f v) = (apt l k v).map fun p => f p.2 := by
  unfold putVs
  rw [has_al he]
  unfold apt
  by_cases q : ahas l k = true
  · rw [if_pos q, if_pos q, List.map_map]
    clear q
    induction l with
    | nil => rfl
    | cons p l ih =>
      rw [List.map_cons, List.map_cons, List.map_cons]
      unfold rpG
      rw [ih]
      congr 1
      by_cases z : p.1 = k
      · rw [if_pos (by rw [z])]
        show _ = f (if p.1 = k then (p.1, v) else p).2
        rw [if_pos z]
      · rw [if_neg fun h => z (he _ _ h)]
        show _ = f (if p.1 = k then (p.1, v) else p).2
        rw [if_neg z]
  · rw [if_neg q, if_neg q, List.map_append]
    rfl
theorem lkD_al (he : ∀ a b, e a = e b → a = b) {l : List (κ × α)} {k : κ} : lkD (l.map fun p => e p.1) (l.map fun p => f p.2) (e k) = (agt l k).map f := by
  induction l with
  | nil => rfl
  | cons p l ih =>
    rw [List.map_cons, List.map_cons]
    unfold lkD agt
    by_cases z : p.1 = k
    · rw [if_pos (by rw [z]), if_pos z] <;> rfl
    · rw [if_neg fun h => z (he _ _ h), if_neg z]
      exact ih
end
abbrev Pl := Str × Nat
abbrev kS (x : Str) : Key := .inr x
abbrev kN (n : Nat) : Key := .inl (n : Int)
abbrev kP (p : Pl) : List Key := [.inr p.1, .inl (p.2 : Int)]
theorem kS_inj (a b : Str) (h : kS a = kS b) : a = b := Sum.inr.inj h
def dkS {α : Type} (f : α → DV) (l : List (Str × α)) : Cell := .dik (l.map fun p => kS p.1) (l.map fun p => f p.2)
def dkN {α : Type} (f : α → DV) (l : List (Nat × α)) : Cell := .dik (l.map fun p => kN p.1) (l.map fun p => f p.2)
def dkP {α : Type} (f : α → DV) (l : List (Pl × α)) : Cell := .dit (l.map fun p => kP p.1) (l.map fun p => f p.2)
abbrev plD (p : Pl) : DV := .tup [.str p.1, .int (p.2 : Nat)]
section
variable {α : Type} {f : α → DV} {S : Sto} {n : Nat}
theorem setI_S {l : List (Str × α)} {x : Str} {v : α} (h : S[n]? = some (dkS f l)) (hz : l.length < 16777216) : setI (.loc n) (.str x) (f v) S = some (S.set n (dkS f (apt l x v))) := by
  rw [setI_dik h (by rw [List.length_map]; exact hz)]
  unfold dkS
  rw [← putKs_al (v := v) kS_inj, ← putVs_al (f := f) kS_inj]
theorem getD_S {l : List (Str × α)} {x : Str} (h : S[n]? = some (dkS f l)) : getD S (.loc n) (.str x) = some ((agt l x).map f) := by
  rw [getD_dik h]
  exact congrArg some (lkD_al kS_inj)
end
end Dn

/-! the house in plain Lean -/
namespace Dn
open PySem PySem.Spec PyProof.Rows L2
abbrev Thing := Str × Int × Bool
abbrev thD (c : Thing) : DV := .tup [.str c.1, .int c.2.1, .bl c.2.2]
structure Hst where
  rows : List PRow
  cells : List Thing
  shelves : List Thing
  keeps : List (Nat × List Str)
  beg : List Str
  coming : List Int
structure Pg where
  row : Nat
  done : Nat
  hears : Nat
  says : Nat
  held : List (Str × Int)
  turned : List (Pl × Int)
inductive Dd where
  | page (r : Nat) | box (x : Str) (v : Int) | turn (p : Pl) (v : Int) | face | home (p : Pl) (v : Int)
inductive Ph where
  | up (k : Nat) | go (r : Nat) | keep (r : Nat) (l : List Dd) (k : Nat) | rest
structure Hs where
  dust : Int
  held : List (Str × Int)
  log : List (Pl × Int)
  done : Nat
  hears : Nat
  says : Nat
  ph : Ph
  home : List (Pl × Int)
  p0 : Pg
  p1 : Pg
  front : Bool
  fin : Option Int
  bn : List (Nat × Int)
  rent : Bool
def Hst.twL (Z : Hst) : List (Str × Bool) := Z.shelves.foldl (fun l c => apt l c.1 c.2.2) (Z.cells.foldl (fun l c => apt l c.1 c.2.2) [])
def Hst.szL (Z : Hst) : List (Str × Int) := Z.shelves.foldl (fun l c => apt l c.1 c.2.1) []
def shelfL (l : List (Pl × Int)) (c : Thing) : List (Pl × Int) := (List.range c.2.1.toNat).foldl (fun l k => apt l (c.1, k) 0) l
def Hst.homeL (Z : Hst) : List (Pl × Int) := Z.shelves.foldl shelfL (Z.cells.foldl (fun l c => apt l (c.1, 0) c.2.1) [])
def Hst.homeK (Z : Hst) : List Pl := Z.homeL.map (·.1)
def Hst.keepsL (Z : Hst) : List (Nat × List Str) := Z.keeps.foldl (fun l k => apt l k.1 k.2) []
def Hst.twin (Z : Hst) (n : Str) : Bool := (agt Z.twL n).getD false
def Hst.size (Z : Hst) (n : Str) : Int := (agt Z.szL n).getD 1
def Hs.worth (h : Hs) : Atm → Int
  | .n i => i
  | .x s => (agt h.held s).getD h.dust
def Hs.place (Z : Hst) (h : Hs) (n : Str) (a : Atm) : Nat := (h.worth a % Z.size n).toNat
def Hs.homeV (h : Hs) (p : Pl) : Int := (agt h.home p).getD 0
def Hs.seen (Z : Hst) (h : Hs) (p : Pl) : Int := if Z.twin p.1 = true then (agt h.log p).getD (h.homeV p) else h.homeV p
def Hs.written (Z : Hst) (h : Hs) (p : Pl) (v : Int) : Hs := if Z.twin p.1 = true then { h with log := apt h.log p v } else { h with home := apt h.home p v }
def Hs.out (h : Hs) (x : Str) (v : Int) : Hs := { h with held := apt h.held x v }
def Hs.say (h : Hs) (v : Int) : Hs := match agt h.bn h.says with
  | none => { h with bn := apt h.bn h.says v, says := h.says + 1 }
  | some u => { h with rent := h.rent || !decide (u = v), says := h.says + 1 }
def Hs.row (Z : Hst) (h : Hs) : PRow → Hs
  | .say a => h.say (h.worth a)
  | .copy x a => h.out x (h.worth a)
  | .op x s a b => h.out x (valS s (h.worth a) (h.worth b))
  | .load x c => h.out x (h.seen Z (c, 0))
  | .store c a => h.written Z (c, 0) (h.worth a)
  | .take x s a => h.out x (h.seen Z (s, h.place Z s a))
  | .lay s a b => h.written Z (s, h.place Z s a) (h.worth b)
  | .hear x => { h.out x (Z.coming.getD h.hears 0) with hears := h.hears + 1 }
  | .ifr _ _ => h
  | .go _ => h
  | .endr a => { h with fin := some (h.worth a) }
def Hs.next (h : Hs) (i : Nat) : PRow → Nat
  | .ifr a n => if h.worth a = 0 then i + 1 else n
  | .go n => n
  | _ => i + 1
def Hs.page (h : Hs) (b : Bool) : Pg := if b = true then h.p1 else h.p0
def Hs.back (h : Hs) : Pg := h.page (!h.front)
def Hs.setBack (h : Hs) (p : Pg) : Hs := if h.front = true then { h with p0 := p } else { h with p1 := p }
def Hs.deed (h : Hs) : Dd → Hs
  | .page r => h.setBack ⟨r, h.done, h.hears, h.says, [], []⟩
  | .box x v => h.setBack { h.back with held := h.back.held ++ [(x, v)] }
  | .turn p v => h.setBack { h.back with turned := h.back.turned ++ [(p, v)] }
  | .face => { h with front := !h.front }
  | .home p v => { h with home := apt h.home p v }
def Hs.small (h : Hs) (r : Nat) (bs : List Str) : List Dd := Dd.page r :: (bs.map fun x => Dd.box x (h.worth (.x x))) ++ (h.log.map fun p => Dd.turn p.1 p.2) ++ [Dd.face] ++ h.log.map fun p => Dd.home p.1 p.2
def dictL (l : List (Str × Int)) : List (Str × Int) := l.foldl (fun l q => apt l q.1 q.2) []
def Hs.comeUp (h : Hs) (p : Pg) : Hs := { h with held := dictL p.held, done := p.done, hears := p.hears, says := p.says }
def isEnd : PRow → Bool
  | .endr _ => true
  | _ => false
/-- behind a row -/
def Hs.come (Z : Hst) (h : Hs) (t : Nat) : Hs := match agt Z.keepsL t with
  | none => { h with ph := .go t }
  | some bs => { h with ph := .keep t (h.small t bs) 0 }
def Hs.step (Z : Hst) (h : Hs) : Hs := match h.ph with
  | .rest => h
  | .up k => (match (h.page h.front).turned[k]? with
    | some q => { h with home := apt h.home q.1 q.2, ph := .up (k + 1) }
    | none => { h.comeUp (h.page h.front) with ph := .go (h.page h.front).row })
  | .go i => (match Z.rows[i]? with
    | none => h
    | some r => if isEnd r = true then { Hs.row Z { h with done := h.done + 1 } r with ph := .rest } else (Hs.row Z { h with done := h.done + 1 } r).come Z (h.next i r))
  | .keep r l k => (match l[k]? with
    | none => h
    | some d => if k + 1 < l.length then { h.deed d with ph := .keep r l (k + 1) } else { h.deed d with log := [], ph := .go r })
def pg0 (b : List Str) : Pg := ⟨0, 0, 0, 0, b.map fun x => (x, 0), []⟩
def Hst.init (Z : Hst) : Hs := ⟨0, [], [], 0, 0, 0, .up 0, Z.homeL, pg0 Z.beg, pg0 [], false, none, [], false⟩
/-! ### what is in order -/
def Hst.IsP (Z : Hst) (p : Pl) : Prop := p ∈ Z.homeK
structure Hst.CellOk (Z : Hst) (c : Str) : Prop where
  tw : ahas Z.twL c = true
  pl : Z.IsP (c, 0)
structure Hst.ShelfOk (Z : Hst) (s : Str) : Prop where
  tw : ahas Z.twL s = true
  sz : agt Z.szL s = some (Z.size s)
  z0 : 0 < Z.size s
  z1 : Z.size s ≤ 1000
  pl : ∀ k : Nat, (k : Int) < Z.size s → Z.IsP (s, k)
def Hst.RowOk (Z : Hst) : PRow → Prop
  | .say a => a.Ok
  | .copy _ a => a.Ok
  | .op _ s a b => isSign s ∧ a.Ok ∧ b.Ok
  | .load _ c => Z.CellOk c
  | .store c a => Z.CellOk c ∧ a.Ok
  | .take _ s a => Z.ShelfOk s ∧ a.Ok
  | .lay s a b => Z.ShelfOk s ∧ a.Ok ∧ b.Ok
  | .hear _ => True
  | .ifr a _ => a.Ok
  | .go _ => True
  | .endr a => a.Ok
structure Hst.Ok (Z : Hst) : Prop where
  r : ∀ r ∈ Z.rows, Z.RowOk r
  led : ∀ (i : Nat) (r : PRow), Z.rows[i]? = some r → ∀ t ∈ r.led i, t < Z.rows.length
  n0 : 0 < Z.rows.length
  n1 : Z.rows.length ≤ 1000
  co : ∀ v ∈ Z.coming, In40 v
  cz : Z.coming.length ≤ 1000
  ks : ∀ k ∈ Z.keeps, k.2.length ≤ 1000
  kz : Z.keeps.length ≤ 1000
  bz : Z.beg.length ≤ 1000
  hm : ∀ p ∈ Z.homeL, In40 p.2
  hz : Z.homeL.length ≤ 1000
def vOk {κ : Type} (l : List (κ × Int)) : Prop := ∀ p ∈ l, In40 p.2
structure Pg.Ok (Z : Hst) (N : Nat) (p : Pg) : Prop where
  h : vOk p.held
  t : vOk p.turned
  tp : ∀ q ∈ p.turned, Z.IsP q.1
  r : p.row < Z.rows.length
  hz : p.held.length ≤ N
  tz : p.turned.length ≤ N
def Dd.Ok (Z : Hst) : Dd → Prop
  | .page r => r < Z.rows.length
  | .box _ v => In40 v
  | .turn p v => Z.IsP p ∧ In40 v
  | .face => True
  | .home p v => Z.IsP p ∧ In40 v
def Ph.Ok (Z : Hst) (N : Nat) : Ph → Prop
  | .up _ => True
  | .go r => r < Z.rows.length
  | .keep r l k => r < Z.rows.length ∧ k < l.length ∧ l.length ≤ 2 * N + 1002 ∧ ∀ d ∈ l, d.Ok Z
  | .rest => True
structure Hs.Ok (Z : Hst) (N : Nat) (h : Hs) : Prop where
  du : In40 h.dust
  he : vOk h.held
  lo : vOk h.log
  lp : ∀ q ∈ h.log, Z.IsP q.1
  ln : (h.log.map (·.1)).Nodup
  hm : vOk h.home
  hk : h.home.map (·.1) = Z.homeK
  p0 : h.p0.Ok Z N
  p1 : h.p1.Ok Z N
  ph : h.ph.Ok Z N
  hz : h.held.length ≤ N
  lz : h.log.length ≤ N
  bz : h.bn.length ≤ N
  bv : vOk h.bn
theorem Pg.Ok.mono {Z : Hst} {N M : Nat} {p : Pg} (O : p.Ok Z N) (h : N ≤ M) : p.Ok Z M := ⟨O.h, O.t, O.tp, O.r, Nat.le_trans O.hz h, Nat.le_trans O.tz h⟩
theorem Ph.Ok.mono {Z : Hst} {N M : Nat} {p : Ph} (O : p.Ok Z N) (h : N ≤ M) : p.Ok Z M := by
  cases p with
  | up k => exact trivial
  | go r => exact O
  | keep r l k =>
    obtain ⟨a, b, c, d⟩ := O
    exact ⟨a, b, by omega, d⟩
  | rest => exact trivial
theorem Hs.Ok.mono {Z : Hst} {N M : Nat} {h : Hs} (O : h.Ok Z N) (hm : N ≤ M) : h.Ok Z M :=
  ⟨O.du, O.he, O.lo, O.lp, O.ln, O.hm, O.hk, O.p0.mono hm, O.p1.mono hm, O.ph.mono hm, Nat.le_trans O.hz hm, Nat.le_trans O.lz hm, Nat.le_trans O.bz hm, O.bv⟩
theorem vOk_get {κ : Type} [DecidableEq κ] {l : List (κ × Int)} (h : vOk l) {k : κ} {d : Int} (hd : In40 d) : In40 ((agt l k).getD d) := by
  cases e : agt l k with
  | none => exact hd
  | some v => exact h _ (agt_mem e)
theorem vOk_apt {κ : Type} [DecidableEq κ] {l : List (κ × Int)} (h : vOk l) {k : κ} {v : Int} (hv : In40 v) : vOk (apt l k v) := apt_mem (P := fun p => In40 p.2) h hv
theorem isP_apt {Z : Hst} {l : List (Pl × Int)} (h : ∀ q ∈ l, Z.IsP q.1) {p : Pl} {v : Int} (hp : Z.IsP p) : ∀ q ∈ apt l p v, Z.IsP q.1 := apt_mem (P := fun q => Z.IsP q.1) h hp
section
variable {Z : Hst} {N : Nat} {h : Hs}
theorem Hs.Ok.worth (O : h.Ok Z N) {a : Atm} (ha : a.Ok) : In40 (h.worth a) := by
  cases a with
  | n i => exact ha
  | x s => exact vOk_get O.he O.du
theorem Hs.Ok.homeV (O : h.Ok Z N) (p : Pl) : In40 (h.homeV p) := vOk_get O.hm in0
theorem Hs.Ok.home (O : h.Ok Z N) {p : Pl} (hp : Z.IsP p) : agt h.home p = some (h.homeV p) := by
  unfold Hs.homeV
  cases e : agt h.home p with
  | some v => rfl
  | none =>
    have := agt_none.mp e
    rw [ahas_of (by rw [O.hk]; exact hp)] at this
    cases this
theorem Hs.Ok.seen (O : h.Ok Z N) (p : Pl) : In40 (h.seen Z p) := by
  unfold Hs.seen
  split
  · exact vOk_get O.lo (O.homeV p)
  · exact O.homeV p
theorem place_lt (O : Z.ShelfOk s) {a : Atm} : ((h.place Z s a : Nat) : Int) = h.worth a % Z.size s ∧ ((h.place Z s a : Nat) : Int) < Z.size s := by
  have z0 := O.z0
  have h1 := Int.emod_nonneg (h.worth a) (b := Z.size s) (by omega)
  have h2 := Int.emod_lt_of_pos (h.worth a) O.z0
  unfold Hs.place
  omega
theorem hk_apt (O : h.Ok Z N) {p : Pl} {v : Int} (hp : Z.IsP p) : (apt h.home p v).map (·.1) = Z.homeK := by
  rw [apt_keys (ahas_of (by rw [O.hk]; exact hp))]
  exact O.hk
theorem Hs.Ok.written (O : h.Ok Z N) {p : Pl} {v : Int} (hp : Z.IsP p) (hv : In40 v) : (h.written Z p v).Ok Z (N + 1) := by
  have O' := O.mono (Nat.le_succ N)
  have lz := O.lz
  unfold Hs.written
  split
  · exact ⟨O'.du, O'.he, vOk_apt O.lo hv, isP_apt O.lp hp, apt_nd O.ln, O'.hm, O'.hk, O'.p0, O'.p1, O'.ph, O'.hz, Nat.le_trans apt_len (by omega), O'.bz, O'.bv⟩
  · exact ⟨O'.du, O'.he, O'.lo, O'.lp, O'.ln, vOk_apt O.hm hv, hk_apt O hp, O'.p0, O'.p1, O'.ph, O'.hz, O'.lz, O'.bz, O'.bv⟩
theorem Hs.Ok.out (O : h.Ok Z N) {x : Str} {v : Int} (hv : In40 v) : (h.out x v).Ok Z (N + 1) := by
  have O' := O.mono (Nat.le_succ N)
  have hz := O.hz
  exact ⟨O'.du, vOk_apt O.he hv, O'.lo, O'.lp, O'.ln, O'.hm, O'.hk, O'.p0, O'.p1, O'.ph, Nat.le_trans apt_len (by omega), O'.lz, O'.bz, O'.bv⟩
theorem Hs.Ok.say (O : h.Ok Z N) {v : Int} (hv : In40 v) : (h.say v).Ok Z (N + 1) := by
  have O' := O.mono (Nat.le_succ N)
  have bz := O.bz
  unfold Hs.say
  split
  · exact ⟨O'.du, O'.he, O'.lo, O'.lp, O'.ln, O'.hm, O'.hk, O'.p0, O'.p1, O'.ph, O'.hz, O'.lz, Nat.le_trans apt_len (by omega), vOk_apt O.bv hv⟩
  · exact ⟨O'.du, O'.he, O'.lo, O'.lp, O'.ln, O'.hm, O'.hk, O'.p0, O'.p1, O'.ph, O'.hz, O'.lz, O'.bz, O'.bv⟩
/-- fields of which nothing is asked -/
theorem Hs.Ok.num (O : h.Ok Z N) (a b c : Nat) (f : Option Int) : ({ h with done := a, hears := b, says := c, fin := f } : Hs).Ok Z N := ⟨O.du, O.he, O.lo, O.lp, O.ln, O.hm, O.hk, O.p0, O.p1, O.ph, O.hz, O.lz, O.bz, O.bv⟩
theorem Hs.Ok.inPh (O : h.Ok Z N) {p : Ph} (hp : p.Ok Z N) : ({ h with ph := p } : Hs).Ok Z N := ⟨O.du, O.he, O.lo, O.lp, O.ln, O.hm, O.hk, O.p0, O.p1, hp, O.hz, O.lz, O.bz, O.bv⟩
theorem Hs.Ok.row (O : h.Ok Z N) (K : Z.Ok) {r : PRow} (hr : Z.RowOk r) : (h.row Z r).Ok Z (N + 1) := by
  cases r with
  | say a => exact O.say (O.worth hr)
  | copy x a => exact O.out (O.worth hr)
  | op x s a b => exact O.out (valS_40 (O.worth hr.2.1) (O.worth hr.2.2))
  | load x c => exact O.out (O.seen _)
  | store c a => exact O.written hr.1.pl (O.worth hr.2)
  | take x s a => exact O.out (O.seen _)
  | lay s a b => exact O.written (hr.1.pl _ (place_lt hr.1).2) (O.worth hr.2.2)
  | hear x =>
    have hv : In40 (Z.coming.getD h.hears 0) := by
      rw [List.getD_eq_getElem?_getD]
      cases e : Z.coming[h.hears]? with
      | none => exact in0
      | some v => exact K.co v (List.mem_of_getElem? e)
    exact (O.out hv).num h.done (h.hears + 1) h.says h.fin
  | ifr a n => exact O.mono (Nat.le_succ N)
  | go n => exact O.mono (Nat.le_succ N)
  | endr a => exact (O.mono (Nat.le_succ N)).num h.done h.hears h.says _
theorem Hs.Ok.page (O : h.Ok Z N) (b : Bool) : (h.page b).Ok Z N := by
  cases b
  · exact O.p0
  · exact O.p1
theorem Hs.Ok.setBack (O : h.Ok Z N) {p : Pg} (hp : p.Ok Z N) : (h.setBack p).Ok Z N := by
  unfold Hs.setBack
  split
  · exact ⟨O.du, O.he, O.lo, O.lp, O.ln, O.hm, O.hk, hp, O.p1, O.ph, O.hz, O.lz, O.bz, O.bv⟩
  · exact ⟨O.du, O.he, O.lo, O.lp, O.ln, O.hm, O.hk, O.p0, hp, O.ph, O.hz, O.lz, O.bz, O.bv⟩
theorem Hs.Ok.deed (O : h.Ok Z N) {d : Dd} (hd : d.Ok Z) : (h.deed d).Ok Z (N + 1) := by
  have O' := O.mono (Nat.le_succ N)
  have B := O.page (!h.front)
  have hz : h.back.held.length ≤ N := B.hz
  have tz : h.back.turned.length ≤ N := B.tz
  cases d with
  | page r => exact O'.setBack ⟨(fun p hp => by cases hp), (fun p hp => by cases hp), (fun p hp => by cases hp), hd, Nat.zero_le _, Nat.zero_le _⟩
  | box x v => exact O'.setBack ⟨fun p hp => (List.mem_append.mp hp).elim (B.h p) fun e => by rw [List.mem_singleton.mp e]; exact hd, B.t, B.tp, B.r, by rw [List.length_append, List.length_singleton]; omega, Nat.le_succ_of_le tz⟩
  | turn p v => exact O'.setBack ⟨B.h, fun q hq => (List.mem_append.mp hq).elim (B.t q) fun e => by rw [List.mem_singleton.mp e]; exact hd.2, fun q hq => (List.mem_append.mp hq).elim (B.tp q) fun e => by rw [List.mem_singleton.mp e]; exact hd.1, B.r, Nat.le_succ_of_le hz, by rw [List.length_append, List.length_singleton]; omega⟩
  | face => exact ⟨O'.du, O'.he, O'.lo, O'.lp, O'.ln, O'.hm, O'.hk, O'.p0, O'.p1, O'.ph, O'.hz, O'.lz, O'.bz, O'.bv⟩
  | home p v => exact ⟨O'.du, O'.he, O'.lo, O'.lp, O'.ln, vOk_apt O.hm hd.2, hk_apt O hd.1, O'.p0, O'.p1, O'.ph, O'.hz, O'.lz, O'.bz, O'.bv⟩
theorem dictL_len : ∀ (l m : List (Str × Int)), (l.foldl (fun l q => apt l q.1 q.2) m).length ≤ m.length + l.length
  | [], m => Nat.le_refl _
  | q :: l, m => by
    have := dictL_len l (apt m q.1 q.2)
    have := apt_len (l := m) (k := q.1) (v := q.2)
    rw [List.foldl_cons, List.length_cons]
    omega
theorem dictL_ok : ∀ (l m : List (Str × Int)), vOk l → vOk m → vOk (l.foldl (fun l q => apt l q.1 q.2) m)
  | [], m, _, hm => hm
  | q :: l, m, hl, hm => dictL_ok l (apt m q.1 q.2) (fun p hp => hl p (List.mem_cons_of_mem _ hp)) (vOk_apt hm (hl q List.mem_cons_self))
theorem keepsL_mem (K : Z.Ok) {t : Nat} {bs : List Str} (e : agt Z.keepsL t = some bs) : (t, bs) ∈ Z.keeps := by
  have key : ∀ (l m : List (Nat × List Str)), (∀ p ∈ l.foldl (fun l k => apt l k.1 k.2) m, p ∈ l ∨ p ∈ m) := fun l => by
    induction l with
    | nil => intro m p hp; exact .inr hp
    | cons k l ih =>
      intro m p hp
      rcases ih _ p hp with h | h
      · exact .inl (List.mem_cons_of_mem _ h)
      · have := apt_mem (P := fun p => p = k ∨ p ∈ m) (l := m) (k := k.1) (v := k.2) (fun q hq => .inr hq) (.inl rfl) p h
        rcases this with e | e
        · rw [e]; exact .inl List.mem_cons_self
        · exact .inr e
  rcases key Z.keeps [] _ (agt_mem e) with h | h
  · exact h
  · cases h
theorem Hs.Ok.small (O : h.Ok Z N) {r : Nat} (hr : r < Z.rows.length) {bs : List Str} : ∀ d ∈ h.small r bs, d.Ok Z := by
  intro d hd
  unfold Hs.small at hd
  rcases List.mem_append.mp hd with hd | hd
  · rcases List.mem_append.mp hd with hd | hd
    · rcases List.mem_append.mp hd with hd | hd
      · rcases List.mem_cons.mp hd with e | hd
        · rw [e]; exact hr
        · obtain ⟨x, _, rfl⟩ := List.mem_map.mp hd
          exact O.worth (a := .x x) trivial
      · obtain ⟨p, hp, rfl⟩ := List.mem_map.mp hd
        exact ⟨O.lp p hp, O.lo p hp⟩
    · rw [List.mem_singleton.mp hd]; exact trivial
  · obtain ⟨p, hp, rfl⟩ := List.mem_map.mp hd
    exact ⟨O.lp p hp, O.lo p hp⟩
theorem small_len {r : Nat} {bs : List Str} : (h.small r bs).length = bs.length + 2 * h.log.length + 2 := by
  unfold Hs.small
  simp only [List.length_append, List.length_cons, List.length_map, List.length_nil]
  omega
theorem next_led {i : Nat} {r : PRow} (he : isEnd r = false) : h.next i r ∈ r.led i := by
  cases r with
  | ifr a n =>
    show (if h.worth a = 0 then i + 1 else n) ∈ [n, i + 1]
    split
    · exact List.mem_cons_of_mem _ List.mem_cons_self
    · exact List.mem_cons_self
  | endr a => cases he
  | _ => exact List.mem_cons_self
theorem Hs.Ok.come (O : h.Ok Z N) (K : Z.Ok) {t : Nat} (ht : t < Z.rows.length) : (h.come Z t).Ok Z N := by
  unfold Hs.come
  split
  · exact O.inPh (p := .go t) ht
  · rename_i bs e
    have := K.ks _ (keepsL_mem K e)
    have := O.lz
    have l := small_len (h := h) (r := t) (bs := bs)
    exact O.inPh (p := .keep t _ 0) ⟨ht, by omega, by simp only at *; omega, O.small ht⟩
theorem Hs.Ok.step (O : h.Ok Z N) (K : Z.Ok) : (h.step Z).Ok Z (N + 1) := by
  have O' := O.mono (Nat.le_succ N)
  unfold Hs.step
  split
  · exact O'
  · rename_i k e
    have B := O.page h.front
    split
    · rename_i q hq
      have hm := List.mem_of_getElem? hq
      exact ⟨O'.du, O'.he, O'.lo, O'.lp, O'.ln, vOk_apt O.hm (B.t q hm), hk_apt O (B.tp q hm), O'.p0, O'.p1, trivial, O'.hz, O'.lz, O'.bz, O'.bv⟩
    · refine ⟨O'.du, dictL_ok _ _ B.h (fun p hp => by cases hp), O'.lo, O'.lp, O'.ln, O'.hm, O'.hk, O'.p0, O'.p1, B.r, ?_, O'.lz, O'.bz, O'.bv⟩
      have := dictL_len (h.page h.front).held []
      have := B.hz
      rw [List.length_nil] at *
      show (dictL (h.page h.front).held).length ≤ N + 1
      unfold dictL
      omega
  · rename_i i e
    split
    · exact O'
    · rename_i r hr
      have R := (O.num (h.done + 1) h.hears h.says h.fin).row K (K.r r (List.mem_of_getElem? hr))
      split
      · exact R.inPh (p := .rest) trivial
      · rename_i he
        exact R.come K (K.led i r hr _ (next_led (Bool.eq_false_iff.mpr he)))
  · rename_i r l k e
    have hp := O.ph
    rw [e] at hp
    obtain ⟨h1, h2, h3, h4⟩ := hp
    split
    · exact O'
    · rename_i d hd
      have D := O.deed (h4 d (List.mem_of_getElem? hd))
      split
      · rename_i q
        exact D.inPh (p := .keep r l (k + 1)) ⟨h1, q, by omega, h4⟩
      · exact ⟨D.du, D.he, (fun p hp => by cases hp), (fun p hp => by cases hp), List.nodup_nil, D.hm, D.hk, D.p0, D.p1, h1, D.hz, Nat.zero_le _, D.bz, D.bv⟩
theorem step_go {i : Nat} {r : PRow} (hp : h.ph = .go i) (hr : Z.rows[i]? = some r) : h.step Z = if isEnd r = true then { Hs.row Z { h with done := h.done + 1 } r with ph := .rest } else (Hs.row Z { h with done := h.done + 1 } r).come Z (h.next i r) := by
  unfold Hs.step
  split
  · rename_i e; rw [hp] at e; cases e
  · rename_i e; rw [hp] at e; cases e
  · rename_i e; rw [hp] at e; cases e
    rw [hr]
  · rename_i e; rw [hp] at e; cases e
/-! ### the hand's letters -/
structure Hs.Sy (h : Hs) : Prop where
  k : h.bn.map (·.1) = List.range h.bn.length
  s : h.says ≤ h.bn.length
  s0 : h.p0.says ≤ h.bn.length
  s1 : h.p1.says ≤ h.bn.length
def Hs.letters (h : Hs) : List Int := h.bn.map (·.2)
theorem agt_range {l : List (Nat × Int)} (hk : l.map (·.1) = List.range l.length) (i : Nat) : agt l i = (l[i]?).map (·.2) := by
  have key : ∀ (l : List (Nat × Int)) (a : Nat), l.map (·.1) = List.range' a l.length → ∀ i, agt l (a + i) = (l[i]?).map (·.2) := fun l => by
    induction l with
    | nil => intro a _ i; rfl
    | cons p l ih =>
      intro a hl i
      rw [List.map_cons, List.length_cons, List.range'_succ] at hl
      obtain ⟨h1, h2⟩ := List.cons.inj hl
      rw [agt_cons]
      cases i with
      | zero =>
        rw [if_pos (by rw [h1] <;> rfl)]
        rfl
      | succ i =>
        have h1 : p.1 = a := h1
        rw [if_neg (by omega), show a + (i + 1) = a + 1 + i by omega, ih (a + 1) h2 i]
        rfl
  have := key l 0 (by rw [hk, List.range_eq_range']) i
  rwa [Nat.zero_add] at this
theorem Hs.Sy.say (Y : h.Sy) (v : Int) : (h.say v).Sy ∧ h.bn.length ≤ (h.say v).bn.length := by
  obtain ⟨k, s, s0, s1⟩ := Y
  unfold Hs.say
  split
  · rename_i e
    rw [agt_range k] at e
    have hs : h.says = h.bn.length := by
      rcases Nat.lt_or_ge h.says h.bn.length with q | q
      · rw [List.getElem?_eq_getElem q] at e
        cases e
      · omega
    have hn : ahas h.bn h.says = false := by
      rw [← agt_none, agt_range k]
      exact e
    have ea : apt h.bn h.says v = h.bn ++ [(h.says, v)] := by
      unfold apt
      rw [if_neg (by rw [hn]; decide)]
    refine ⟨⟨?_, ?_, ?_, ?_⟩, ?_⟩
    · show (apt h.bn h.says v).map (·.1) = List.range (apt h.bn h.says v).length
      rw [ea, List.map_append, List.length_append, List.length_singleton, List.range_succ, k, hs]
      rfl
    · show h.says + 1 ≤ (apt h.bn h.says v).length
      rw [ea, List.length_append, List.length_singleton]
      omega
    · show h.p0.says ≤ (apt h.bn h.says v).length
      rw [ea, List.length_append, List.length_singleton]
      omega
    · show h.p1.says ≤ (apt h.bn h.says v).length
      rw [ea, List.length_append, List.length_singleton]
      omega
    · show h.bn.length ≤ (apt h.bn h.says v).length
      rw [ea, List.length_append, List.length_singleton]
      omega
  · rename_i u e
    rw [agt_range k] at e
    have hs : h.says < h.bn.length := by
      rcases Nat.lt_or_ge h.says h.bn.length with q | q
      · exact q
      · rw [List.getElem?_eq_none q] at e
        cases e
    exact ⟨⟨k, hs, s0, s1⟩, Nat.le_refl _⟩
theorem Hs.Sy.keep {h' : Hs} (Y : h.Sy) (a : h'.bn = h.bn) (b : h'.says = h.says) (c : h'.p0 = h.p0) (d : h'.p1 = h.p1) : h'.Sy := by
  obtain ⟨k, s, s0, s1⟩ := Y
  exact ⟨by rw [a]; exact k, by rw [a, b]; exact s, by rw [a, c]; exact s0, by rw [a, d]; exact s1⟩
theorem Hs.Sy.row (Y : h.Sy) (r : PRow) : (h.row Z r).Sy := by
  cases r with
  | say a => exact (Y.say _).1
  | store c a =>
    show (h.written Z _ _).Sy
    unfold Hs.written
    split <;> exact Y.keep rfl rfl rfl rfl
  | lay s a b =>
    show (h.written Z _ _).Sy
    unfold Hs.written
    split <;> exact Y.keep rfl rfl rfl rfl
  | _ => exact Y.keep rfl rfl rfl rfl
theorem Hs.Sy.setBack (Y : h.Sy) {p : Pg} (hp : p.says ≤ h.bn.length) : (h.setBack p).Sy := by
  unfold Hs.setBack
  split
  · exact ⟨Y.k, Y.s, hp, Y.s1⟩
  · exact ⟨Y.k, Y.s, Y.s0, hp⟩
theorem Hs.Sy.page (Y : h.Sy) (b : Bool) : (h.page b).says ≤ h.bn.length := by
  cases b
  · exact Y.s0
  · exact Y.s1
theorem Hs.Sy.deed (Y : h.Sy) (d : Dd) : (h.deed d).Sy := by
  cases d with
  | page r => exact Y.setBack (p := ⟨r, h.done, h.hears, h.says, [], []⟩) Y.s
  | box x v => exact Y.setBack (p := { h.back with held := h.back.held ++ [(x, v)] }) (Y.page (!h.front))
  | turn q v => exact Y.setBack (p := { h.back with turned := h.back.turned ++ [(q, v)] }) (Y.page (!h.front))
  | face => exact Y.keep rfl rfl rfl rfl
  | home p v => exact Y.keep rfl rfl rfl rfl
theorem Hs.Sy.step (Y : h.Sy) : (h.step Z).Sy := by
  unfold Hs.step
  split
  · exact Y
  · split
    · exact Y.keep rfl rfl rfl rfl
    · exact ⟨Y.k, Y.page h.front, Y.s0, Y.s1⟩
  · split
    · exact Y
    · rename_i r hr
      have R := Hs.Sy.row (Z := Z) (h := { h with done := h.done + 1 }) (Y.keep rfl rfl rfl rfl) r
      split
      · exact R.keep rfl rfl rfl rfl
      · unfold Hs.come
        split <;> exact R.keep rfl rfl rfl rfl
  · split
    · exact Y
    · rename_i d hd
      split <;> exact (Y.deed d).keep rfl rfl rfl rfl
end
end Dn

/-! the house in the store -/
namespace Dn
open PySem PySem.Spec PyProof.Rows L2
structure HL where
  o : Nat
  le : Nat
  ke : Nat
  co : Nat
  st : Nat
  ha : Nat
  he : Nat
  lo : Nat
  ph : Nat
  hm : Nat
  sz : Nat
  pg : Nat
  p0 : Nat
  p1 : Nat
  h0 : Nat
  t0 : Nat
  h1 : Nat
  t1 : Nat
  bn : Nat
abbrev intD : Int → DV := DV.int
abbrev blD : Bool → DV := DV.bl
abbrev bxD (l : List Str) : DV := .tup (l.map .str)
def Hst.PD (Z : Hst) : DV := .tup [.tup (Z.cells.map thD), .tup (Z.shelves.map thD), .tup (Z.rows.map PRow.d)]
def dikS {α : Type} (f : α → DV) (l : List (Str × α)) : DV := .dik .own (l.map fun p => kS p.1) (l.map fun p => f p.2)
def hsF (Z : Hst) (L : HL) (h : Hs) : List (Str × DV) :=
  [("program", Z.PD), ("leads", .loc L.le), ("twins", dikS blD Z.twL), ("sizes", dikS intD Z.szL), ("keeps", .loc L.ke), ("coming", .loc L.co), ("stays", .loc L.st), ("hand", .loc L.ha),
    ("dust", .int h.dust), ("held", .loc L.he), ("log", .loc L.lo), ("done", .int h.done), ("hears", .int h.hears), ("says", .int h.says), ("phase", .loc L.ph)]
def Dd.d : Dd → DV
  | .page r => .tup [.str "page", .int r]
  | .box x v => .tup [.str "box", .str x, .int v]
  | .turn p v => .tup [.str "turn", .str p.1, .int p.2, .int v]
  | .face => .tup [.str "face"]
  | .home p v => .tup [.str "home", .str p.1, .int p.2, .int v]
def phC : Ph → Cell
  | .up k => .ins "Up" [("passed", .int k)]
  | .go r => .ins "Going" [("line", .int r)]
  | .keep r l k => .ins "Keeping" [("line", .int r), ("steps", .lst .own (l.map Dd.d)), ("passed", .int k)]
  | .rest => .ins "Resting" []
def frN (b : Bool) : Nat := if b = true then 1 else 0
def stF (L : HL) (h : Hs) : List (Str × DV) := [("home", .loc L.hm), ("sizes", .loc L.sz), ("pages", .loc L.pg), ("front", .int (frN h.front : Nat)), ("final", optI h.fin)]
def headD (p : Pg) : DV := .tup [.int p.row, .int p.done, .int p.hears, .int p.says]
def pgF (p : Pg) (a b : Nat) : List (Str × DV) := [("head", headD p), ("held", .loc a), ("turned", .loc b)]
abbrev bvD (q : Str × Int) : DV := .tup [.str q.1, .int q.2]
abbrev tnD (q : Pl × Int) : DV := .tup [plD q.1, .int q.2]
def hnF (L : HL) (h : Hs) : List (Str × DV) := [("by_number", .loc L.bn), ("rent", .bl h.rent)]
def hsC (Z : Hst) (L : HL) (h : Hs) : Cs :=
  [(L.o, .ins "House" (hsF Z L h)), (L.le, .lst (leadsD Z.rows)), (L.ke, dkN bxD Z.keepsL), (L.co, .lst (Z.coming.map .int)), (L.st, .ins "Store" (stF L h)), (L.hm, dkP intD h.home), (L.sz, dkS intD Z.szL), (L.p0, .ins "Page" (pgF h.p0 L.h0 L.t0)), (L.h0, .lst (h.p0.held.map bvD)), (L.t0, .lst (h.p0.turned.map tnD)), (L.p1, .ins "Page" (pgF h.p1 L.h1 L.t1)), (L.h1, .lst (h.p1.held.map bvD)), (L.t1, .lst (h.p1.turned.map tnD)), (L.pg, .lst [.loc L.p0, .loc L.p1]), (L.ha, .ins "Hand" (hnF L h)), (L.bn, dkN intD h.bn), (L.he, dkS intD h.held), (L.lo, dkP intD h.log), (L.ph, phC h.ph)]
/-- a step of the house's part -/
abbrev HSt (Z : Hst) (S : Sto) (L : HL) (h : Hs) (S' : Sto) (L' : HL) (h' : Hs) : Prop := Stp S (hsC Z L h) S' (hsC Z L' h') ∧ L'.o = L.o
section
variable {Z : Hst} {S S' S1 : Sto} {L L' L1 : HL} {h h' h1 : Hs}
theorem HSt.trans (a : HSt Z S L h S1 L1 h1) (b : HSt Z S1 L1 h1 S' L' h') : HSt Z S L h S' L' h' := ⟨a.1.trans b.1, b.2.trans a.2⟩
theorem HSt.refl (A : AtS S (hsC Z L h)) : HSt Z S L h S L h := ⟨Stp.refl A, rfl⟩
variable (A : AtS S (hsC Z L h))
include A
end
section
variable {Z : Hst} {S : Sto} {L : HL} {h : Hs} (A : AtS S (hsC Z L h)) {p : Pg}
include A
end
end Dn

/-! list(range(j)) -/
namespace Dn
open PySem PySem.Spec PyProof.Rows L2
section
variable {X : Cx}
end
end Dn

/-! a house of a program in order -/
namespace Dn
open PySem PySem.Spec PyProof.Rows L2
section
variable {κ α β : Type} [DecidableEq κ]
theorem fold_apt_not (kf : β → κ) (vf : β → α) {p : κ} : ∀ (l : List β) (acc : List (κ × α)), (∀ c ∈ l, kf c ≠ p) → agt (l.foldl (fun a c => apt a (kf c) (vf c)) acc) p = agt acc p
  | [], acc, _ => rfl
  | c :: l, acc, h => by
    rw [List.foldl_cons, fold_apt_not kf vf l _ fun x hx => h x (List.mem_cons_of_mem _ hx), agt_apt, if_neg (h c List.mem_cons_self)]
theorem fold_apt_mem (kf : β → κ) (vf : β → α) : ∀ (l : List β) (acc : List (κ × α)), (l.map kf).Nodup → ∀ c ∈ l, agt (l.foldl (fun a c => apt a (kf c) (vf c)) acc) (kf c) = some (vf c)
  | [], acc, _, c, h => nomatch h
  | d :: l, acc, hn, c, h => by
    rw [List.map_cons, List.nodup_cons] at hn
    rw [List.foldl_cons]
    rcases List.mem_cons.mp h with e | h
    · subst e
      rw [fold_apt_not kf vf l _ fun x hx e => hn.1 (by rw [← e]; exact List.mem_map_of_mem hx), agt_apt, if_pos rfl]
    · exact fold_apt_mem kf vf l _ hn.2 c h
theorem fold_apt_all (kf : β → κ) (vf : β → α) {P : κ × α → Prop} : ∀ (l : List β) (acc : List (κ × α)), (∀ p ∈ acc, P p) → (∀ c ∈ l, P (kf c, vf c)) → ∀ p ∈ l.foldl (fun a c => apt a (kf c) (vf c)) acc, P p
  | [], acc, h, _, p, hp => h p hp
  | c :: l, acc, h, h2, p, hp => fold_apt_all kf vf l _ (apt_mem h (h2 c List.mem_cons_self)) (fun x hx => h2 x (List.mem_cons_of_mem _ hx)) p hp
theorem fold_apt_len (kf : β → κ) (vf : β → α) : ∀ (l : List β) (acc : List (κ × α)), (l.foldl (fun a c => apt a (kf c) (vf c)) acc).length ≤ acc.length + l.length
  | [], acc => Nat.le_refl _
  | c :: l, acc => by
    have := fold_apt_len kf vf l (apt acc (kf c) (vf c))
    have := apt_len (l := acc) (k := kf c) (v := vf c)
    rw [List.foldl_cons, List.length_cons]
    omega
theorem ahas_some {l : List (κ × α)} {k : κ} {v : α} (h : agt l k = some v) : ahas l k = true := by
  cases q : ahas l k with
  | true => rfl
  | false => rw [agt_none.mpr q] at h; cases h
end
theorem agt_shelfL (acc : List (Pl × Int)) (c : Thing) (p : Pl) : agt (shelfL acc c) p = if p.1 = c.1 ∧ p.2 < c.2.1.toNat then some 0 else agt acc p := by
  unfold shelfL
  generalize c.2.1.toNat = n
  induction n with
  | zero => rw [if_neg (by omega)]; rfl
  | succ n ih =>
    rw [List.range_succ, List.foldl_append, List.foldl_cons, List.foldl_nil, agt_apt, ih]
    by_cases q : (c.1, n) = p
    · rw [if_pos q, if_pos (by rw [← q]; exact ⟨rfl, Nat.lt_succ_self _⟩)]
    · rw [if_neg q]
      by_cases z : p.1 = c.1 ∧ p.2 < n
      · rw [if_pos z, if_pos ⟨z.1, by omega⟩]
      · rw [if_neg z, if_neg fun y => z ⟨y.1, by
          rcases Nat.lt_or_ge p.2 n with t | t
          · exact t
          · exact absurd (Prod.ext y.1.symm (show n = p.2 by omega)) q⟩]
theorem fold_shelf_not {p : Pl} : ∀ (l : List Thing) (acc : List (Pl × Int)), (∀ c ∈ l, c.1 ≠ p.1) → agt (l.foldl shelfL acc) p = agt acc p
  | [], acc, _ => rfl
  | c :: l, acc, h => by
    rw [List.foldl_cons, fold_shelf_not l _ fun x hx => h x (List.mem_cons_of_mem _ hx), agt_shelfL, if_neg fun z => h c List.mem_cons_self z.1.symm]
theorem fold_shelf_mem : ∀ (l : List Thing) (acc : List (Pl × Int)), (l.map (·.1)).Nodup → ∀ c ∈ l, ∀ k : Nat, k < c.2.1.toNat → agt (l.foldl shelfL acc) (c.1, k) = some 0
  | [], acc, _, c, h, _, _ => nomatch h
  | d :: l, acc, hn, c, h, k, hk => by
    rw [List.map_cons, List.nodup_cons] at hn
    rw [List.foldl_cons]
    rcases List.mem_cons.mp h with e | h
    · subst e
      rw [fold_shelf_not l _ fun x hx e => hn.1 (by rw [← e]; exact List.mem_map_of_mem hx), agt_shelfL, if_pos ⟨rfl, hk⟩]
    · exact fold_shelf_mem l _ hn.2 c h k hk
theorem shelfL_all {P : Pl × Int → Prop} (c : Thing) (acc : List (Pl × Int)) (h : ∀ p ∈ acc, P p) (h2 : ∀ k : Nat, k < c.2.1.toNat → P ((c.1, k), 0)) : ∀ p ∈ shelfL acc c, P p := by
  unfold shelfL
  exact fold_apt_all (fun k : Nat => ((c.1, k) : Pl)) (fun _ => (0 : Int)) _ acc h fun k hk => h2 k (List.mem_range.mp hk)
theorem fold_shelf_all {P : Pl × Int → Prop} : ∀ (l : List Thing) (acc : List (Pl × Int)), (∀ p ∈ acc, P p) → (∀ c ∈ l, ∀ k : Nat, k < c.2.1.toNat → P ((c.1, k), 0)) → ∀ p ∈ l.foldl shelfL acc, P p
  | [], acc, h, _ => h
  | c :: l, acc, h, h2 => fold_shelf_all l _ (shelfL_all c acc h (h2 c List.mem_cons_self)) fun x hx => h2 x (List.mem_cons_of_mem _ hx)
theorem fold_shelf_len (m : Nat) : ∀ (l : List Thing) (acc : List (Pl × Int)), (∀ c ∈ l, c.2.1.toNat ≤ m) → (l.foldl shelfL acc).length ≤ acc.length + m * l.length
  | [], acc, _ => by simp
  | c :: l, acc, h => by
    have h1 := fold_shelf_len m l (shelfL acc c) fun x hx => h x (List.mem_cons_of_mem _ hx)
    have h2 : (shelfL acc c).length ≤ acc.length + c.2.1.toNat := by
      have := fold_apt_len (fun k : Nat => ((c.1, k) : Pl)) (fun _ => (0 : Int)) (List.range c.2.1.toNat) acc
      rw [List.length_range] at this
      exact this
    have h3 := h c List.mem_cons_self
    rw [List.foldl_cons, List.length_cons, Nat.mul_succ]
    omega
/-- what is asked of the cells and shelves of a program -/
structure Hst.In (Z : Hst) : Prop where
  nd : ((Z.cells ++ Z.shelves).map (·.1)).Nodup
  cv : ∀ c ∈ Z.cells, In40 c.2.1
  sv : ∀ c ∈ Z.shelves, 1 ≤ c.2.1 ∧ c.2.1 ≤ 8
  cz : Z.cells.length ≤ 100
  sz : Z.shelves.length ≤ 100
section
variable {Z : Hst}
theorem Hst.In.nds (I : Z.In) : (Z.shelves.map (·.1)).Nodup ∧ (Z.cells.map (·.1)).Nodup ∧ ∀ c ∈ Z.cells, ∀ s ∈ Z.shelves, s.1 ≠ c.1 := by
  have := I.nd
  rw [List.map_append] at this
  obtain ⟨a, b, c⟩ := List.nodup_append.mp this
  exact ⟨b, a, fun x hx s hs e => c _ (List.mem_map_of_mem hx) _ (List.mem_map_of_mem hs) e.symm⟩
theorem nodup_key {l : List Thing} (h : (l.map (·.1)).Nodup) : (l.map fun c => ((c.1, 0) : Pl)).Nodup := by
  induction l with
  | nil => exact List.nodup_nil
  | cons c l ih =>
    rw [List.map_cons, List.nodup_cons] at h ⊢
    refine ⟨fun q => h.1 ?_, ih h.2⟩
    obtain ⟨x, hx, e⟩ := List.mem_map.mp q
    exact List.mem_map.mpr ⟨x, hx, (Prod.mk.inj e).1⟩
theorem Hst.In.home_c (I : Z.In) {c : Thing} (hc : c ∈ Z.cells) : agt Z.homeL (c.1, 0) = some c.2.1 := by
  unfold Hst.homeL
  rw [fold_shelf_not _ _ fun s hs => (I.nds).2.2 c hc s hs]
  exact fold_apt_mem (fun c : Thing => ((c.1, 0) : Pl)) (fun c => c.2.1) Z.cells [] (nodup_key I.nds.2.1) c hc
theorem Hst.In.home_s (I : Z.In) {c : Thing} (hc : c ∈ Z.shelves) {k : Nat} (hk : (k : Int) < c.2.1) : agt Z.homeL (c.1, k) = some 0 := by
  unfold Hst.homeL
  exact fold_shelf_mem _ _ I.nds.1 c hc k (by omega)
theorem Hst.In.tw_c (I : Z.In) {c : Thing} (hc : c ∈ Z.cells) : agt Z.twL c.1 = some c.2.2 := by
  unfold Hst.twL
  rw [fold_apt_not (fun c : Thing => c.1) (fun c => c.2.2) _ _ fun s hs => I.nds.2.2 c hc s hs]
  exact fold_apt_mem (fun c : Thing => c.1) (fun c => c.2.2) _ _ I.nds.2.1 c hc
theorem Hst.In.tw_s (I : Z.In) {c : Thing} (hc : c ∈ Z.shelves) : agt Z.twL c.1 = some c.2.2 := by
  unfold Hst.twL
  exact fold_apt_mem (fun c : Thing => c.1) (fun c => c.2.2) _ _ I.nds.1 c hc
theorem Hst.In.sz_s (I : Z.In) {c : Thing} (hc : c ∈ Z.shelves) : agt Z.szL c.1 = some c.2.1 := by
  unfold Hst.szL
  exact fold_apt_mem (fun c : Thing => c.1) (fun c => c.2.1) _ _ I.nds.1 c hc
theorem Hst.In.size_s (I : Z.In) {c : Thing} (hc : c ∈ Z.shelves) : Z.size c.1 = c.2.1 := by unfold Hst.size; rw [I.sz_s hc]; rfl
theorem isP_of {p : Pl} {v : Int} (h : agt Z.homeL p = some v) : Z.IsP p := by
  unfold Hst.IsP Hst.homeK
  exact ahas_iff.mp (ahas_some h)
theorem Hst.In.cell (I : Z.In) {c : Thing} (hc : c ∈ Z.cells) : Z.CellOk c.1 := ⟨ahas_some (I.tw_c hc), isP_of (I.home_c hc)⟩
theorem Hst.In.shelf (I : Z.In) {c : Thing} (hc : c ∈ Z.shelves) : Z.ShelfOk c.1 := by
  have e := I.size_s hc
  have := I.sv c hc
  exact ⟨ahas_some (I.tw_s hc), by rw [e]; exact I.sz_s hc, by omega, by omega, fun k hk => isP_of (I.home_s hc (by omega))⟩
theorem Hst.In.hm (I : Z.In) : ∀ p ∈ Z.homeL, In40 p.2 := by
  unfold Hst.homeL
  refine fold_shelf_all _ _ (fold_apt_all (fun c : Thing => ((c.1, 0) : Pl)) (fun c => c.2.1) _ _ (fun p hp => nomatch hp) fun c hc => I.cv c hc) fun c hc k hk => in0
theorem Hst.In.hz (I : Z.In) : Z.homeL.length ≤ 1000 := by
  have h1 := fold_shelf_len 8 Z.shelves (Z.cells.foldl (fun l c => apt l (c.1, 0) c.2.1) []) fun c hc => by have := I.sv c hc; omega
  have h2 : (Z.cells.foldl (fun l c => apt l (c.1, 0) c.2.1) ([] : List (Pl × Int))).length ≤ 0 + Z.cells.length := fold_apt_len (fun c : Thing => ((c.1, 0) : Pl)) (fun c => c.2.1) Z.cells []
  have := I.cz
  have := I.sz
  unfold Hst.homeL
  generalize Z.cells.foldl (fun l c => apt l (c.1, 0) c.2.1) ([] : List (Pl × Int)) = acc at h1 h2 ⊢
  omega
/-- all that a house asks -/
theorem Hst.In.ok (I : Z.In) (r : ∀ r ∈ Z.rows, Z.RowOk r) (led : ∀ (i : Nat) (r : PRow), Z.rows[i]? = some r → ∀ t ∈ r.led i, t < Z.rows.length) (n0 : 0 < Z.rows.length) (n1 : Z.rows.length ≤ 1000)
    (co : ∀ v ∈ Z.coming, In40 v) (cz : Z.coming.length ≤ 1000) (ks : ∀ k ∈ Z.keeps, k.2.length ≤ 1000) (kz : Z.keeps.length ≤ 1000) (bz : Z.beg.length ≤ 1000) : Z.Ok := ⟨r, led, n0, n1, co, cz, ks, kz, bz, I.hm, I.hz⟩
end
end Dn

/-! rows that work on given names -/
namespace Dn
open PySem PySem.Spec PyProof.Rows L2
def PRow.In (cn sn : List Str) : PRow → Prop
  | .say a => a.Ok
  | .copy _ a => a.Ok
  | .op _ s a b => isSign s ∧ a.Ok ∧ b.Ok
  | .load _ c => c ∈ cn
  | .store c a => c ∈ cn ∧ a.Ok
  | .take _ s a => s ∈ sn ∧ a.Ok
  | .lay s a b => s ∈ sn ∧ a.Ok ∧ b.Ok
  | .hear _ => True
  | .ifr a _ => a.Ok
  | .go _ => True
  | .endr a => a.Ok
section
variable {Z : Hst}
theorem Hst.In.row (I : Z.In) {r : PRow} (h : r.In (Z.cells.map (·.1)) (Z.shelves.map (·.1))) : Z.RowOk r := by
  have cl : ∀ {c : Str}, c ∈ Z.cells.map (·.1) → Z.CellOk c := fun {c} hc => by
    obtain ⟨x, hx, rfl⟩ := List.mem_map.mp hc
    exact I.cell hx
  have sl : ∀ {c : Str}, c ∈ Z.shelves.map (·.1) → Z.ShelfOk c := fun {c} hc => by
    obtain ⟨x, hx, rfl⟩ := List.mem_map.mp hc
    exact I.shelf hx
  cases r with
  | say a => exact h
  | copy x a => exact h
  | op x s a b => exact h
  | load x c => exact cl h
  | store c a => exact ⟨cl h.1, h.2⟩
  | take x s a => exact ⟨sl h.1, h.2⟩
  | lay s a b => exact ⟨sl h.1, h.2⟩
  | hear x => exact trivial
  | ifr a n => exact h
  | go n => exact trivial
  | endr a => exact h
end
theorem PRow.In.ok {cn sn : List Str} {ck sk : List Key} (hc : ∀ c ∈ cn, hasK ck (.inr c) = true) (hs : ∀ s ∈ sn, hasK sk (.inr s) = true) {r : PRow} (h : r.In cn sn) : r.Ok ck sk := by
  cases r with
  | say a => exact h
  | copy x a => exact h
  | op x s a b => exact h
  | load x c => exact hc _ h
  | store c a => exact ⟨hc _ h.1, h.2⟩
  | take x s a => exact ⟨hs _ h.1, h.2⟩
  | lay s a b => exact ⟨hs _ h.1, h.2⟩
  | hear x => exact trivial
  | ifr a n => exact h
  | go n => exact trivial
  | endr a => exact h
/-- where a row leads, within -/
def PRow.Led (many : Nat) : PRow → Prop
  | .ifr _ n => n < many
  | .go n => n < many
  | _ => True
theorem PRow.Led.led {many i : Nat} {r : PRow} (h : r.Led many) (hi : isEnd r = false → i + 1 < many) : ∀ t ∈ r.led i, t < many := fun t ht => by
  cases r with
  | ifr a n =>
    have ht : t ∈ [n, i + 1] := ht
    simp only [List.mem_cons, List.not_mem_nil, or_false] at ht
    rcases ht with q | q
    · rw [q]; exact h
    · rw [q]; exact hi rfl
  | go n => rw [List.mem_singleton.mp (show t ∈ [n] from ht)]; exact h
  | endr a => cases ht
  | _ => rw [List.mem_singleton.mp ht]; exact hi rfl
end Dn

/-! a def with defaults -/
namespace Dn
open PySem PySem.Spec PyProof.Rows L2
end Dn

/-! equal data; a house driven; the names on its pages -/
namespace Dn
open PySem PySem.Spec PyProof.Rows L2
theorem eq_int {S : Sto} {i : Int} (neg : Bool) : pEq neg (.int i) (.int i) S = some (.bl (!neg), S) := by
  cases neg with
  | false => rw [v_eqI, decide_eq_true rfl]; rfl
  | true => rw [v_neI, decide_eq_true rfl]
/-! ### so many steps -/
section
variable (Z : Hst)
end
section
variable {Z : Hst} {N : Nat} {h : Hs}
/-! ### the names on the pages -/
structure Hs.Hn (P : Str → Prop) (h : Hs) : Prop where
  p0 : ∀ q ∈ h.p0.held, P q.1
  p1 : ∀ q ∈ h.p1.held, P q.1
  ph : ∀ r l k, h.ph = .keep r l k → ∀ x v, Dd.box x v ∈ l → P x
variable {P : Str → Prop}
theorem Hs.Hn.keep (Y : h.Hn P) {h' : Hs} (a : h'.p0 = h.p0) (b : h'.p1 = h.p1) (c : ∀ r l k, h'.ph = .keep r l k → ∀ x v, Dd.box x v ∈ l → P x) : h'.Hn P := ⟨by rw [a]; exact Y.p0, by rw [b]; exact Y.p1, c⟩
theorem row_pages (r : PRow) : (h.row Z r).p0 = h.p0 ∧ (h.row Z r).p1 = h.p1 := by
  have w : ∀ p v, (h.written Z p v).p0 = h.p0 ∧ (h.written Z p v).p1 = h.p1 := fun p v => by
    unfold Hs.written
    split <;> exact ⟨rfl, rfl⟩
  cases r with
  | say a =>
    show (h.say _).p0 = _ ∧ (h.say _).p1 = _
    unfold Hs.say
    split <;> exact ⟨rfl, rfl⟩
  | store c a => exact w _ _
  | lay s a b => exact w _ _
  | _ => exact ⟨rfl, rfl⟩
theorem Hs.Hn.setBack (Y : h.Hn P) {p : Pg} (hp : ∀ q ∈ p.held, P q.1) : (h.setBack p).Hn P := by
  unfold Hs.setBack
  split
  · exact ⟨hp, Y.p1, Y.ph⟩
  · exact ⟨Y.p0, hp, Y.ph⟩
theorem Hs.Hn.page (Y : h.Hn P) (b : Bool) : ∀ q ∈ (h.page b).held, P q.1 := by
  cases b
  · exact Y.p0
  · exact Y.p1
theorem Hs.Hn.deed (Y : h.Hn P) {d : Dd} (hd : ∀ x v, d = .box x v → P x) : (h.deed d).Hn P := by
  cases d with
  | page r => exact Y.setBack (fun q hq => nomatch hq)
  | box x v => exact Y.setBack (p := { h.back with held := h.back.held ++ [(x, v)] }) fun q hq => (List.mem_append.mp hq).elim (Y.page (!h.front) q) fun e => by rw [List.mem_singleton.mp e]; exact hd x v rfl
  | turn p v => exact Y.setBack (p := { h.back with turned := h.back.turned ++ [(p, v)] }) (Y.page (!h.front))
  | face => exact Y.keep rfl rfl Y.ph
  | home p v => exact Y.keep rfl rfl Y.ph
theorem Hs.Hn.step (Y : h.Hn P) (K : Z.Ok) (hk : ∀ k ∈ Z.keeps, ∀ x ∈ k.2, P x) : (h.step Z).Hn P := by
  unfold Hs.step
  split
  · exact Y
  · split
    · exact Y.keep rfl rfl (fun r l k e => nomatch e)
    · exact Y.keep rfl rfl (fun r l k e => nomatch e)
  · split
    · exact Y
    · rename_i i _ r hr
      obtain ⟨a, b⟩ := row_pages (Z := Z) (h := { h with done := h.done + 1 }) r
      split
      · exact Y.keep a b (fun r l k e => nomatch e)
      · unfold Hs.come
        split
        · exact Y.keep a b (fun r l k e => nomatch e)
        · rename_i bs e
          refine Y.keep a b fun r' l k e2 x v hx => ?_
          injection e2 with e3 e4 e5
          rw [← e4] at hx
          unfold Hs.small at hx
          have hb := hk _ (keepsL_mem K e)
          simp only [List.mem_append, List.mem_cons, List.mem_map, List.not_mem_nil, or_false, reduceCtorEq, false_or, and_false, exists_false] at hx
          obtain ⟨y, hy, ey⟩ := hx
          cases ey
          exact hb _ hy
  · rename_i r l k hp
    split
    · exact Y
    · rename_i d hd
      have D := Y.deed (d := d) fun x v e => Y.ph r l k hp x v (by rw [← e]; exact List.mem_of_getElem? hd)
      split
      · refine D.keep rfl rfl fun r' l' k' e => ?_
        injection e with e1 e2 e3
        rw [← e2]
        exact Y.ph r l k hp
      · exact D.keep rfl rfl (fun r l k e => nomatch e)
end
end Dn

/-! the plain machine of a program in order; what is seen of it -/
namespace Dn
open PySem PySem.Spec PyProof.Rows L2
section
variable {κ α : Type} [DecidableEq κ] {k j : κ} {v : α}
theorem pn_app : ∀ {a : List κ} {c : List α} {b : List κ} {d : List α}, a.length = c.length → lkG (a ++ b) (c ++ d) j = (lkG a c j).or (lkG b d j)
  | [], [], b, d, _ => by
    show lkG b d j = (lkG ([] : List κ) ([] : List α) j).or _
    unfold lkG
    rfl
  | [], _ :: _, _, _, h => by cases h
  | _ :: _, [], _, _, h => by cases h
  | x :: a, y :: c, b, d, h => by
    show (if x = j then some y else lkG (a ++ b) (c ++ d) j) = (if x = j then some y else lkG a c j).or (lkG b d j)
    by_cases q : x = j
    · rw [if_pos q, if_pos q]; rfl
    · rw [if_neg q, if_neg q, pn_app (Nat.succ.inj h)]
theorem pn_none : ∀ {a : List κ} {c : List α}, hasK a k = false → a.length = c.length → rpG k v a c = c
  | [], [], _, _ => rfl
  | [], _ :: _, _, h => by cases h
  | _ :: _, [], _, h => by cases h
  | x :: a, y :: c, h, hl => by
    unfold hasK at h
    rw [List.any_cons, Bool.or_eq_false_iff] at h
    show (if x = k then v else y) :: rpG k v a c = y :: c
    rw [if_neg (by simpa using h.1), pn_none (show hasK a k = false from h.2) (Nat.succ.inj hl)]
theorem pn_rp : ∀ {a : List κ} {c : List α}, hasK a k = true → a.length = c.length → lkG a (rpG k v a c) j = if k = j then some v else lkG a c j
  | [], _, h, _ => by cases h
  | _ :: _, [], _, hl => by cases hl
  | x :: a, y :: c, h, hl => by
    show (if x = j then some (if x = k then v else y) else lkG a (rpG k v a c) j) = if k = j then some v else (if x = j then some y else lkG a c j)
    by_cases q : x = k
    · by_cases q2 : x = j
      · rw [if_pos q2, if_pos q, if_pos (q.symm.trans q2)]
      · rw [if_neg q2, if_neg fun e => q2 (q.trans e), if_neg q2]
        by_cases q3 : hasK a k = true
        · rw [pn_rp q3 (Nat.succ.inj hl), if_neg fun e => q2 (q.trans e)]
        · rw [pn_none (by simpa using q3) (Nat.succ.inj hl)]
    · have h2 : hasK a k = true := by
        unfold hasK at h
        rw [List.any_cons, decide_eq_false q, Bool.false_or] at h
        exact h
      rw [pn_rp h2 (Nat.succ.inj hl)]
      by_cases q2 : x = j
      · rw [if_pos q2, if_neg q, if_neg (fun e => q (q2.trans e.symm)), if_pos q2]
      · rw [if_neg q2, if_neg q2]
theorem pn_lk_none : ∀ {a : List κ} {c : List α}, hasK a k = false → lkG a c k = none
  | [], c, _ => by unfold lkG; rfl
  | x :: a, [], _ => by unfold lkG; rfl
  | x :: a, y :: c, h => by
    unfold hasK at h
    rw [List.any_cons, Bool.or_eq_false_iff] at h
    show (if x = k then some y else lkG a c k) = none
    rw [if_neg (by simpa using h.1), pn_lk_none (show hasK a k = false from h.2)]
theorem pn_put {a : List κ} {c : List α} (hl : a.length = c.length) : lkG (putKs a k) (putG a c k v) j = if k = j then some v else lkG a c j := by
  by_cases q : hasK a k = true
  · rw [putKs_has q, putG_has q, pn_rp q hl]
  · unfold putKs putG
    rw [if_neg q, if_neg q, pn_app hl]
    by_cases q2 : k = j
    · subst q2
      rw [pn_lk_none (by simpa using q), if_pos rfl]
      show (none : Option α).or (if k = k then some v else _) = some v
      rw [if_pos rfl]; rfl
    · rw [if_neg q2]
      have : lkG [k] [v] j = none := by
        show (if k = j then some v else lkG ([] : List κ) ([] : List α) j) = none
        rw [if_neg q2]; unfold lkG; rfl
      rw [this]
      cases lkG a c j <;> rfl
end
/-! ### where it starts, what stays -/
def Hst.pst (Z : Hst) : PSt := ⟨0, 0, 0, none, [], [], Z.cells.map fun c => .inr c.1, Z.cells.map fun c => c.2.1, Z.shelves.map fun c => .inr c.1, Z.shelves.map fun c => List.replicate c.2.1.toNat 0, []⟩
structure Hst.Pl (Z : Hst) (st : PSt) (n : Nat) : Prop where
  ok : st.Ok
  ck : st.ck = Z.cells.map fun c => .inr c.1
  sk : st.sk = Z.shelves.map fun c => .inr c.1
  at_ : st.at_ < Z.rows.length
  dn : st.done ≤ n
  sz : ∀ c ∈ Z.shelves, (st.shelf c.1).length = c.2.1.toNat
/-- rows in order -/
structure Hst.Rs (Z : Hst) : Prop where
  i : Z.In
  r : ∀ r ∈ Z.rows, r.In (Z.cells.map (·.1)) (Z.shelves.map (·.1))
  led : ∀ (i : Nat) (r : PRow), Z.rows[i]? = some r → ∀ t ∈ r.led i, t < Z.rows.length
  n0 : 0 < Z.rows.length
  n1 : Z.rows.length ≤ 1000
  co : ∀ v ∈ Z.coming, In40 v
section
variable {Z : Hst} {st : PSt} {n : Nat}
theorem hasK_str {l : List Thing} {s : Str} (h : s ∈ l.map (·.1)) : hasK (l.map fun c => (Sum.inr c.1 : Key)) (.inr s) = true := by
  obtain ⟨c, hc, rfl⟩ := List.mem_map.mp h
  exact List.any_eq_true.mpr ⟨.inr c.1, List.mem_map.mpr ⟨c, hc, rfl⟩, decide_eq_true rfl⟩
theorem lk_first {α : Type} {f : Thing → α} : ∀ {l : List Thing}, (l.map (·.1)).Nodup → ∀ c ∈ l, lkG (l.map fun c => (Sum.inr c.1 : Key)) (l.map f) (.inr c.1) = some (f c)
  | [], _, c, h => nomatch h
  | d :: l, hn, c, h => by
    rw [List.map_cons, List.nodup_cons] at hn
    show (if (Sum.inr d.1 : Key) = .inr c.1 then some (f d) else lkG (l.map fun c => (Sum.inr c.1 : Key)) (l.map f) (.inr c.1)) = some (f c)
    rcases List.mem_cons.mp h with e | h
    · subst e; rw [if_pos rfl]
    · rw [if_neg (fun e => hn.1 (by rw [Sum.inr.inj e]; exact List.mem_map_of_mem h))]
      exact lk_first hn.2 c h
theorem pst_pl (R : Z.Rs) : Z.Pl Z.pst 0 := by
  refine ⟨⟨rfl, (fun v hv => nomatch hv), by show (Z.cells.map _).length = (Z.cells.map _).length; rw [List.length_map, List.length_map], fun v hv => ?_, by show (Z.shelves.map _).length = (Z.shelves.map _).length; rw [List.length_map, List.length_map], fun l hl => ?_, Nat.le_refl _, Nat.le_refl _⟩, rfl, rfl, R.n0, Nat.le_refl _, fun c hc => ?_⟩
  · obtain ⟨c, hc, rfl⟩ := List.mem_map.mp (show v ∈ Z.cells.map fun c => c.2.1 from hv)
    exact R.i.cv c hc
  · obtain ⟨c, hc, rfl⟩ := List.mem_map.mp (show l ∈ Z.shelves.map fun c => List.replicate c.2.1.toNat (0 : Int) from hl)
    have := R.i.sv c hc
    refine ⟨fun e => ?_, by rw [List.length_replicate]; omega, fun v hv => by rw [(List.mem_replicate.mp hv).2]; exact in0⟩
    have := congrArg List.length e
    rw [List.length_replicate, List.length_nil] at this
    omega
  · unfold PSt.shelf Hst.pst
    rw [lk_first (f := fun c => List.replicate c.2.1.toNat (0 : Int)) R.i.nds.1 c hc]
    exact List.length_replicate
theorem Hst.Pl.rok (P : Z.Pl st n) (R : Z.Rs) : ∀ r ∈ Z.rows, r.Ok st.ck st.sk := fun r hr => by
  rw [P.ck, P.sk]
  exact (R.r r hr).ok (fun c hc => hasK_str hc) fun s hs => hasK_str hs
theorem pnext_led {st : PSt} {r : PRow} (he : isEnd r = false) : st.next r ∈ r.led st.at_ := by
  cases r with
  | ifr a n =>
    show (if st.worth a = 0 then st.at_ + 1 else n) ∈ [n, st.at_ + 1]
    split
    · exact List.mem_cons_of_mem _ List.mem_cons_self
    · exact List.mem_cons_self
  | endr a => cases he
  | _ => exact List.mem_cons_self
theorem shelf_lay {s s' : Str} {l : List Int} (O : st.Ok) (h : hasK st.sk (.inr s) = true) : PSt.shelf { st with sv := rpG (.inr s) l st.sk st.sv } s' = if s = s' then l else st.shelf s' := by
  unfold PSt.shelf
  show (lkG st.sk (rpG (.inr s) l st.sk st.sv) (.inr s')).getD [0] = _
  rw [pn_rp h O.sl]
  by_cases q : s = s'
  · rw [if_pos (by rw [q]), if_pos q]; rfl
  · rw [if_neg (fun e => q (Sum.inr.inj e)), if_neg q]
theorem Hst.Pl.step (P : Z.Pl st n) (R : Z.Rs) : Z.Pl (st.step Z.rows Z.coming) (n + 1) := by
  obtain ⟨o1, o2, o3⟩ := P.ok.step (rows := Z.rows) (coming := Z.coming) R.co (P.rok R)
  have dn := P.dn
  refine ⟨o1, o2.trans P.ck, o3.trans P.sk, ?_, ?_, fun c hc => ?_⟩
  · unfold PSt.step
    cases e : st.res with
    | some v => exact P.at_
    | none =>
      cases e2 : Z.rows[st.at_]? with
      | none => exact P.at_
      | some r =>
        show st.next r < Z.rows.length
        cases q : isEnd r with
        | true =>
          cases r with
          | endr a => exact P.at_
          | _ => cases q
        | false => exact R.led _ _ e2 _ (pnext_led q)
  · unfold PSt.step
    cases e : st.res with
    | some v => show st.done ≤ n + 1; omega
    | none =>
      cases e2 : Z.rows[st.at_]? with
      | none => show st.done ≤ n + 1; omega
      | some r => show st.done + 1 ≤ n + 1; omega
  · have old := P.sz c hc
    unfold PSt.step
    cases e : st.res with
    | some v => exact old
    | none =>
      cases e2 : Z.rows[st.at_]? with
      | none => exact old
      | some r =>
        have hr := P.rok R r (List.mem_of_getElem? e2)
        show ((PSt.does Z.coming st r).shelf c.1).length = _
        cases r with
        | lay s a b =>
          show (PSt.shelf { st with sv := rpG (.inr s) ((st.shelf s).set (placeN (st.shelf s) (st.worth a)) (st.worth b)) st.sk st.sv } c.1).length = _
          rw [shelf_lay P.ok hr.1]
          by_cases q : s = c.1
          · rw [if_pos q, List.length_set, q]; exact old
          · rw [if_neg q]; exact old
        | _ => exact old
end
end Dn

/-! a plain run as it is seen -/
namespace Dn
open PySem PySem.Spec PyProof.Rows L2
structure Ob where
  at_ : Nat
  done : Nat
  hears : Nat
  box : Str → Int
  hv : Pl → Int
  gone : List Int
  res : Option Int
def fput {κ α : Type} [DecidableEq κ] (f : κ → α) (k : κ) (v : α) : κ → α := fun x => if k = x then v else f x
def Ob.worth (o : Ob) : Atm → Int
  | .n i => i
  | .x s => o.box s
def Ob.place (Z : Hst) (o : Ob) (n : Str) (a : Atm) : Nat := (o.worth a % Z.size n).toNat
def Ob.row (Z : Hst) (o : Ob) : PRow → Ob
  | .say a => { o with gone := o.gone ++ [o.worth a] }
  | .copy x a => { o with box := fput o.box x (o.worth a) }
  | .op x s a b => { o with box := fput o.box x (valS s (o.worth a) (o.worth b)) }
  | .load x c => { o with box := fput o.box x (o.hv (c, 0)) }
  | .store c a => { o with hv := fput o.hv (c, 0) (o.worth a) }
  | .take x s a => { o with box := fput o.box x (o.hv (s, o.place Z s a)) }
  | .lay s a b => { o with hv := fput o.hv (s, o.place Z s a) (o.worth b) }
  | .hear x => { o with box := fput o.box x (Z.coming.getD o.hears 0), hears := o.hears + 1 }
  | .ifr _ _ => o
  | .go _ => o
  | .endr a => { o with res := some (o.worth a) }
def Ob.next (o : Ob) : PRow → Nat
  | .ifr a n => if o.worth a = 0 then o.at_ + 1 else n
  | .go n => n
  | .endr _ => o.at_
  | _ => o.at_ + 1
def Ob.step (Z : Hst) (o : Ob) : Ob := match o.res with
  | some _ => o
  | none => match Z.rows[o.at_]? with
    | none => o
    | some r => { o.row Z r with done := o.done + 1, at_ := o.next r }
def hvOf (Z : Hst) (st : PSt) (p : Pl) : Int := if p.1 ∈ Z.cells.map (·.1) then (if p.2 = 0 then st.cell p.1 else 0) else (st.shelf p.1).getD p.2 0
def Hst.ob (Z : Hst) (st : PSt) : Ob := ⟨st.at_, st.done, st.hears, fun x => st.worth (.x x), hvOf Z st, st.gone, st.res⟩
section
variable {Z : Hst} {st : PSt} {n : Nat}
theorem ob_worth (a : Atm) : (Z.ob st).worth a = st.worth a := by cases a <;> rfl
theorem out_worth (O : st.Ok) (x y : Str) (v : Int) : (st.out x v).worth (.x y) = if x = y then v else st.worth (.x y) := by
  show (lkG (putKs st.hk (Sum.inr x : Key)) (putG st.hk st.hv (.inr x) v) (.inr y)).getD 0 = _
  rw [pn_put O.hl]
  by_cases q : x = y
  · rw [if_pos (by rw [q]), if_pos q]; rfl
  · rw [if_neg (fun e => q (Sum.inr.inj e)), if_neg q]; rfl
theorem out_box (O : st.Ok) (x : Str) (v : Int) : (fun y => (st.out x v).worth (.x y)) = fput (fun y => st.worth (.x y)) x v := by
  funext y
  rw [out_worth O]
  rfl
theorem cell_store {c c' : Str} {v : Int} (O : st.Ok) (h : hasK st.ck (.inr c) = true) : PSt.cell { st with cv := rpG (.inr c) v st.ck st.cv } c' = if c = c' then v else st.cell c' := by
  unfold PSt.cell
  show (lkG st.ck (rpG (.inr c) v st.ck st.cv) (.inr c')).getD 0 = _
  rw [pn_rp h O.cl]
  by_cases q : c = c'
  · rw [if_pos (by rw [q]), if_pos q]; rfl
  · rw [if_neg (fun e => q (Sum.inr.inj e)), if_neg q]
theorem shelf_place (P : Z.Pl st n) (R : Z.Rs) {s : Str} (hs : s ∈ Z.shelves.map (·.1)) (v : Int) : placeN (st.shelf s) v = (v % Z.size s).toNat := by
  obtain ⟨c, hc, rfl⟩ := List.mem_map.mp hs
  unfold placeN
  have h1 := P.sz c hc
  have h2 := R.i.sv c hc
  rw [h1, R.i.size_s hc, Int.toNat_of_nonneg (by omega)]
theorem obEq {s : PSt} {o : Ob} (h1 : s.at_ = o.at_) (h2 : s.done = o.done) (h3 : s.hears = o.hears) (h4 : (fun x => s.worth (.x x)) = o.box) (h5 : hvOf Z s = o.hv) (h6 : s.gone = o.gone) (h7 : s.res = o.res) : Z.ob s = o := by
  obtain ⟨a, b, c, d, e, f, g⟩ := o
  show (⟨s.at_, s.done, s.hears, fun x => s.worth (.x x), hvOf Z s, s.gone, s.res⟩ : Ob) = _
  rw [h1, h2, h3, h4, h5, h6, h7]
theorem ob_does (P : Z.Pl st n) (R : Z.Rs) {r : PRow} (hrow : Z.rows[st.at_]? = some r) : Z.ob { st.does Z.coming r with done := st.done + 1, at_ := st.next r } = { (Z.ob st).row Z r with done := (Z.ob st).done + 1, at_ := (Z.ob st).next r } := by
  have hin := R.r r (List.mem_of_getElem? hrow)
  have hok := P.rok R r (List.mem_of_getElem? hrow)
  have O := P.ok
  have hx : ∀ a, (Z.ob st).worth a = st.worth a := ob_worth
  have hn : ∀ {s : Str}, s ∈ Z.shelves.map (·.1) → s ∉ Z.cells.map (·.1) := fun {s} hs h => by
    obtain ⟨c, hc, e⟩ := List.mem_map.mp h
    obtain ⟨d, hd, e2⟩ := List.mem_map.mp hs
    exact R.i.nds.2.2 c hc d hd (e2.trans e.symm)
  cases r with
  | say a => exact obEq rfl rfl rfl rfl rfl (by show st.gone ++ [st.worth a] = (Z.ob st).gone ++ [(Z.ob st).worth a]; rw [hx]; rfl) rfl
  | copy x a => exact obEq rfl rfl rfl (by show (fun y => (st.out x (st.worth a)).worth (.x y)) = fput (fun y => st.worth (.x y)) x ((Z.ob st).worth a); rw [out_box O, hx]) rfl rfl rfl
  | op x s a b => exact obEq rfl rfl rfl (by show (fun y => (st.out x (valS s (st.worth a) (st.worth b))).worth (.x y)) = fput (fun y => st.worth (.x y)) x (valS s ((Z.ob st).worth a) ((Z.ob st).worth b)); rw [out_box O, hx, hx]) rfl rfl rfl
  | load x c =>
    have e : hvOf Z st (c, 0) = st.cell c := by
      unfold hvOf
      rw [if_pos (show c ∈ _ from hin), if_pos rfl]
    exact obEq rfl rfl rfl (by show (fun y => (st.out x (st.cell c)).worth (.x y)) = fput (fun y => st.worth (.x y)) x (hvOf Z st (c, 0)); rw [out_box O, e]) rfl rfl rfl
  | take x s a =>
    have e : hvOf Z st (s, ((Z.ob st).worth a % Z.size s).toNat) = (st.shelf s).getD (placeN (st.shelf s) (st.worth a)) 0 := by
      unfold hvOf
      rw [if_neg (hn hin.1), shelf_place P R hin.1, hx]
    exact obEq rfl rfl rfl (by show (fun y => (st.out x ((st.shelf s).getD (placeN (st.shelf s) (st.worth a)) 0)).worth (.x y)) = fput (fun y => st.worth (.x y)) x (hvOf Z st (s, ((Z.ob st).worth a % Z.size s).toNat)); rw [out_box O, e]) rfl rfl rfl
  | hear x => exact obEq rfl rfl rfl (by show (fun y => (st.out x (Z.coming.getD st.hears 0)).worth (.x y)) = fput (fun y => st.worth (.x y)) x (Z.coming.getD st.hears 0); rw [out_box O]) rfl rfl rfl
  | ifr a k => exact obEq (by show (if st.worth a = 0 then st.at_ + 1 else k) = (if (Z.ob st).worth a = 0 then st.at_ + 1 else k); rw [hx]) rfl rfl rfl rfl rfl rfl
  | go k => exact obEq rfl rfl rfl rfl rfl rfl rfl
  | endr a => exact obEq rfl rfl rfl rfl rfl rfl (by show some (st.worth a) = some ((Z.ob st).worth a); rw [hx])
  | store c a =>
    refine obEq rfl rfl rfl rfl ?_ rfl rfl
    funext p
    show hvOf Z { st with cv := rpG (.inr c) (st.worth a) st.ck st.cv, done := st.done + 1, at_ := st.at_ + 1 } p = fput (hvOf Z st) (c, 0) ((Z.ob st).worth a) p
    rw [hx]
    have ec : PSt.cell { st with cv := rpG (.inr c) (st.worth a) st.ck st.cv, done := st.done + 1, at_ := st.at_ + 1 } p.1 = if c = p.1 then st.worth a else st.cell p.1 := cell_store O hok.1
    have es : PSt.shelf { st with cv := rpG (.inr c) (st.worth a) st.ck st.cv, done := st.done + 1, at_ := st.at_ + 1 } p.1 = st.shelf p.1 := rfl
    unfold fput hvOf
    rw [ec, es]
    by_cases q : p.1 ∈ Z.cells.map (·.1)
    · rw [if_pos q, if_pos q]
      by_cases q2 : p.2 = 0
      · rw [if_pos q2, if_pos q2]
        by_cases q3 : c = p.1
        · rw [if_pos q3, if_pos (Prod.ext q3 q2.symm)]
        · rw [if_neg q3, if_neg fun e => q3 (congrArg Prod.fst e)]
      · rw [if_neg q2, if_neg q2, if_neg fun e => q2 (congrArg Prod.snd e).symm]
    · rw [if_neg q, if_neg q, if_neg fun (e : (c, 0) = p) => q (by have e1 : c = p.1 := congrArg Prod.fst e; rw [← e1]; exact hin.1)]
  | lay s a b =>
    refine obEq rfl rfl rfl rfl ?_ rfl rfl
    funext p
    show hvOf Z { st with sv := rpG (.inr s) ((st.shelf s).set (placeN (st.shelf s) (st.worth a)) (st.worth b)) st.sk st.sv, done := st.done + 1, at_ := st.at_ + 1 } p = fput (hvOf Z st) (s, ((Z.ob st).worth a % Z.size s).toNat) ((Z.ob st).worth b) p
    rw [hx, hx, ← shelf_place P R hin.1]
    have ec : PSt.shelf { st with sv := rpG (.inr s) ((st.shelf s).set (placeN (st.shelf s) (st.worth a)) (st.worth b)) st.sk st.sv, done := st.done + 1, at_ := st.at_ + 1 } p.1 = if s = p.1 then (st.shelf s).set (placeN (st.shelf s) (st.worth a)) (st.worth b) else st.shelf p.1 := shelf_lay O hok.1
    have es : PSt.cell { st with sv := rpG (.inr s) ((st.shelf s).set (placeN (st.shelf s) (st.worth a)) (st.worth b)) st.sk st.sv, done := st.done + 1, at_ := st.at_ + 1 } p.1 = st.cell p.1 := rfl
    have lt := placeN_lt (O.shelf hok.1).2.1 (st.worth a)
    unfold fput hvOf
    rw [ec, es]
    by_cases q : p.1 ∈ Z.cells.map (·.1)
    · rw [if_pos q, if_pos q, if_neg fun (e : (s, placeN (st.shelf s) (st.worth a)) = p) => hn hin.1 (by have e1 : s = p.1 := congrArg Prod.fst e; rw [e1]; exact q)]
    · rw [if_neg q, if_neg q]
      by_cases q3 : s = p.1
      · rw [if_pos q3]
        by_cases q4 : placeN (st.shelf s) (st.worth a) = p.2
        · rw [if_pos (Prod.ext q3 q4), List.getD_eq_getElem?_getD, List.getElem?_set, if_pos q4, if_pos lt]; rfl
        · rw [if_neg fun e => q4 (congrArg Prod.snd e), List.getD_eq_getElem?_getD, List.getElem?_set, if_neg q4, ← List.getD_eq_getElem?_getD, q3]
      · rw [if_neg q3, if_neg fun e => q3 (congrArg Prod.fst e)]
theorem ob_step (P : Z.Pl st n) (R : Z.Rs) : Z.ob (st.step Z.rows Z.coming) = (Z.ob st).step Z := by
  unfold Ob.step PSt.step
  show Z.ob (match st.res with | some _ => st | none => _) = (match st.res with | some _ => Z.ob st | none => _)
  cases hres : st.res with
  | some v => rfl
  | none =>
    show Z.ob (match Z.rows[st.at_]? with | none => st | some r => _) = (match Z.rows[st.at_]? with | none => Z.ob st | some r => _)
    cases hrow : Z.rows[st.at_]? with
    | none => rfl
    | some r => exact ob_does P R hrow
end
/-- the plain run, row by row -/
def Hst.prun (Z : Hst) : Nat → PSt
  | 0 => Z.pst
  | n + 1 => (Z.prun n).step Z.rows Z.coming
def Hst.run (Z : Hst) : Nat → Ob
  | 0 => Z.ob Z.pst
  | n + 1 => (Z.run n).step Z
section
variable {Z : Hst} {n m : Nat}
theorem prun_pl (R : Z.Rs) : ∀ n, Z.Pl (Z.prun n) n
  | 0 => pst_pl R
  | n + 1 => (prun_pl R n).step R
theorem prun_ob (R : Z.Rs) : ∀ n, Z.ob (Z.prun n) = Z.run n
  | 0 => rfl
  | n + 1 => by
    show Z.ob ((Z.prun n).step Z.rows Z.coming) = (Z.run n).step Z
    rw [ob_step (prun_pl R n) R, prun_ob R n]
theorem run_at (R : Z.Rs) (n : Nat) : (Z.run n).at_ < Z.rows.length := by
  rw [← prun_ob R n]
  exact (prun_pl R n).at_
theorem run_row (R : Z.Rs) (n : Nat) : ∃ r, Z.rows[(Z.run n).at_]? = some r := ⟨_, List.getElem?_eq_getElem (run_at R n)⟩
theorem run_succ {r : PRow} (h : (Z.run n).res = none) (hr : Z.rows[(Z.run n).at_]? = some r) : Z.run (n + 1) = { (Z.run n).row Z r with done := (Z.run n).done + 1, at_ := (Z.run n).next r } := by
  show (Z.run n).step Z = _
  unfold Ob.step
  rw [h]
  simp only [hr]
theorem run_stay {v : Int} (h : (Z.run n).res = some v) : Z.run (n + 1) = Z.run n := by
  show (Z.run n).step Z = _
  unfold Ob.step
  rw [h]
theorem run_ended {v : Int} (h : (Z.run n).res = some v) : ∀ k, Z.run (n + k) = Z.run n
  | 0 => rfl
  | k + 1 => by
    have ih := run_ended h k
    show Z.run (n + k + 1) = _
    rw [run_stay (v := v) (by rw [ih]; exact h), ih]
theorem run_alive (h : (Z.run n).res = none) : ∀ m, m ≤ n → (Z.run m).res = none := fun m hm => by
  cases q : (Z.run m).res with
  | none => rfl
  | some v =>
    have := run_ended q (n - m)
    rw [show m + (n - m) = n by omega] at this
    rw [this, q] at h
    cases h
theorem gone_row (o : Ob) (r : PRow) : ∃ t, (o.row Z r).gone = o.gone ++ t ∧ t.length ≤ 1 := by
  cases r with
  | say a => exact ⟨[o.worth a], rfl, Nat.le_refl _⟩
  | _ => exact ⟨[], (List.append_nil _).symm, Nat.zero_le _⟩
theorem gone_succ (R : Z.Rs) (n : Nat) : ∃ t, (Z.run (n + 1)).gone = (Z.run n).gone ++ t ∧ t.length ≤ 1 := by
  cases h : (Z.run n).res with
  | some v => exact ⟨[], by rw [run_stay h, List.append_nil], Nat.zero_le _⟩
  | none =>
    obtain ⟨r, hr⟩ := run_row R n
    rw [run_succ h hr]
    exact gone_row _ r
theorem gone_le (R : Z.Rs) : ∀ k, ∃ t, (Z.run (n + k)).gone = (Z.run n).gone ++ t ∧ t.length ≤ k
  | 0 => ⟨[], (List.append_nil _).symm, Nat.le_refl _⟩
  | k + 1 => by
    obtain ⟨t, h1, h2⟩ := gone_le R k
    obtain ⟨u, h3, h4⟩ := gone_succ R (n + k)
    exact ⟨t ++ u, by show (Z.run (n + k + 1)).gone = _; rw [h3, h1, List.append_assoc], by rw [List.length_append]; omega⟩
theorem gone_pre (R : Z.Rs) (h : n ≤ m) : ∃ t, (Z.run m).gone = (Z.run n).gone ++ t := by
  obtain ⟨t, h1, _⟩ := gone_le (n := n) R (m - n)
  rw [show n + (m - n) = m by omega] at h1
  exact ⟨t, h1⟩
theorem onext_led {o : Ob} {r : PRow} (he : isEnd r = false) : o.next r ∈ r.led o.at_ := by
  cases r with
  | ifr a n =>
    show (if o.worth a = 0 then o.at_ + 1 else n) ∈ [n, o.at_ + 1]
    split
    · exact List.mem_cons_of_mem _ List.mem_cons_self
    · exact List.mem_cons_self
  | endr a => cases he
  | _ => exact List.mem_cons_self
end
end Dn

/-! a house with failings, against the plain run -/
namespace Dn
open PySem PySem.Spec PyProof.Rows L2
def Atm.bx : Atm → List Str
  | .n _ => []
  | .x s => [s]
def PRow.rds : PRow → List Str
  | .say a => a.bx
  | .copy _ a => a.bx
  | .op _ _ a b => a.bx ++ b.bx
  | .load _ _ => []
  | .store _ a => a.bx
  | .take _ _ a => a.bx
  | .lay _ a b => a.bx ++ b.bx
  | .hear _ => []
  | .ifr a _ => a.bx
  | .go _ => []
  | .endr a => a.bx
def PRow.sets : PRow → Option Str
  | .copy x _ => some x
  | .op x _ _ _ => some x
  | .load x _ => some x
  | .take x _ _ => some x
  | .hear x => some x
  | _ => none
def PRow.getsT : PRow → Option Str
  | .load _ c => some c
  | .take _ s _ => some s
  | _ => none
def PRow.putsT : PRow → Option Str
  | .store c _ => some c
  | .lay s _ _ => some s
  | _ => none
def putsAt (Z : Hst) (o : Ob) : PRow → Option Pl
  | .store c _ => some (c, 0)
  | .lay s a _ => some (s, o.place Z s a)
  | _ => none
/-- what is asked of a cutting -/
structure Holds (Z : Hst) (Nd : Nat → Str → Prop) : Prop where
  n1 : ∀ i r b, Z.rows[i]? = some r → b ∈ r.rds → Nd i b
  n2 : ∀ i r j b, Z.rows[i]? = some r → j ∈ r.led i → Nd j b → r.sets ≠ some b → Nd i b
  nb : ∀ b, Nd 0 b → b ∈ Z.beg
  nk : ∀ i bs b, agt Z.keepsL i = some bs → Nd i b → b ∈ bs
  ends : ∀ i r, Z.rows[i]? = some r → isEnd r = true → ∃ bs, agt Z.keepsL i = some bs
  sp : ∀ (f : Nat → Nat) (i n : Nat) (c : Str), Z.twin c = false → (f 0 = 0 ∨ ∃ bs, agt Z.keepsL (f 0) = some bs) → (∀ k, k < n → ∃ r, Z.rows[f k]? = some r ∧ f (k + 1) ∈ r.led (f k)) →
    (∀ k, 0 < k → k ≤ n → agt Z.keepsL (f k) = none) → i < n → (∃ r, Z.rows[f i]? = some r ∧ r.getsT = some c) → (∃ r, Z.rows[f n]? = some r ∧ r.putsT = some c) → ∃ k, k < i ∧ ∃ a, Z.rows[f k]? = some (.store c a)
def PutsAt (Z : Hst) (k : Nat) (p : Pl) : Prop := ∃ r, Z.rows[(Z.run k).at_]? = some r ∧ putsAt Z (Z.run k) r = some p
/-- a page tells the plain run behind n0 rows -/
structure Pgo (Z : Hst) (Nd : Nat → Str → Prop) (p : Pg) (n0 : Nat) : Prop where
  al : (Z.run n0).res = none
  row : (Z.run n0).at_ = p.row
  dn : p.done = n0
  he : p.hears = (Z.run n0).hears
  sa : p.says = (Z.run n0).gone.length
  bx : ∀ b, Nd p.row b → agt (dictL p.held) b = some ((Z.run n0).box b)
  nd : (p.turned.map (·.1)).Nodup
  tk : ∀ q ∈ p.turned, Z.twin q.1.1 = true
  st : p.row = 0 ∨ ∃ bs, agt Z.keepsL p.row = some bs
/-- what stays, and how far it was -/
structure Com (Z : Hst) (Nd : Nat → Str → Prop) (h : Hs) (n0 M X : Nat) : Prop where
  pg : Pgo Z Nd (h.page h.front) n0
  tw : ∀ p, Z.IsP p → Z.twin p.1 = true → (agt (h.page h.front).turned p).getD (h.homeV p) = (Z.run n0).hv p
  nM : n0 ≤ M
  mX : M ≤ X
  mal : (Z.run M).res = none
  pa : ∀ k, n0 < k → k < M → agt Z.keepsL (Z.run k).at_ = none
  le : h.letters = (Z.run X).gone
  re : h.rent = false
structure UpOk (Z : Hst) (h : Hs) (n0 M k : Nat) : Prop where
  nt : ∀ p, Z.IsP p → Z.twin p.1 = false → ∃ j, n0 ≤ j ∧ j ≤ M ∧ h.homeV p = (Z.run j).hv p
  tu : ∀ i q, i < k → (h.page h.front).turned[i]? = some q → h.homeV q.1 = q.2
  kl : k ≤ (h.page h.front).turned.length
  lg : h.log = []
structure GoOk (Z : Hst) (Nd : Nat → Str → Prop) (h : Hs) (n0 n M : Nat) : Prop where
  al : (Z.run n).res = none
  dn : h.done = n
  he : h.hears = (Z.run n).hears
  sa : h.says = (Z.run n).gone.length
  bx : ∀ b, Nd (Z.run n).at_ b → h.worth (.x b) = (Z.run n).box b
  hm : ∀ p, Z.IsP p → Z.twin p.1 = true → h.homeV p = (Z.run n0).hv p
  lg : ∀ p, Z.IsP p → Z.twin p.1 = true → (agt h.log p).getD (h.homeV p) = (Z.run n).hv p
  lt : ∀ q ∈ h.log, Z.twin q.1.1 = true
  kp : n0 < n → agt Z.keepsL (Z.run n).at_ = none
  nt : ∀ p, Z.IsP p → Z.twin p.1 = false → ((∃ k, n0 ≤ k ∧ k < n ∧ PutsAt Z k p) ∧ h.homeV p = (Z.run n).hv p) ∨ ((∀ k, n0 ≤ k → k < n → ¬ PutsAt Z k p) ∧ ∃ j, n0 ≤ j ∧ j ≤ M ∧ h.homeV p = (Z.run j).hv p)
section
variable {Z : Hst} {Nd : Nat → Str → Prop} {h : Hs} {n0 n M X N : Nat}
theorem hv_row {o : Ob} {r : PRow} {p : Pl} (hp : putsAt Z o r ≠ some p) : (o.row Z r).hv p = o.hv p := by
  cases r with
  | store c a => exact if_neg fun e => hp (congrArg some e)
  | lay s a b => exact if_neg fun e => hp (congrArg some e)
  | _ => rfl
theorem hv_succ (R : Z.Rs) {k : Nat} {p : Pl} (hp : ¬ PutsAt Z k p) : (Z.run (k + 1)).hv p = (Z.run k).hv p := by
  cases q : (Z.run k).res with
  | some v => rw [run_stay q]
  | none =>
    obtain ⟨r, hr⟩ := run_row R k
    rw [run_succ q hr]
    exact hv_row fun e => hp ⟨r, hr, e⟩
theorem hv_const (R : Z.Rs) {p : Pl} {a : Nat} : ∀ (m : Nat), (∀ k, a ≤ k → k < a + m → ¬ PutsAt Z k p) → (Z.run (a + m)).hv p = (Z.run a).hv p
  | 0, _ => rfl
  | m + 1, hk => by
    show (Z.run (a + m + 1)).hv p = _
    rw [hv_succ R (hk (a + m) (by omega) (by omega)), hv_const R m fun k h1 h2 => hk k h1 (by omega)]
theorem run_led (R : Z.Rs) {k : Nat} (h : (Z.run (k + 1)).res = none) : ∃ r, Z.rows[(Z.run k).at_]? = some r ∧ isEnd r = false ∧ (Z.run (k + 1)).at_ ∈ r.led (Z.run k).at_ := by
  have h0 := run_alive h k (Nat.le_succ k)
  obtain ⟨r, hr⟩ := run_row R k
  have e := run_succ h0 hr
  have ne : isEnd r = false := by
    cases r with
    | endr a => rw [e] at h; cases h
    | _ => rfl
  refine ⟨r, hr, ne, ?_⟩
  rw [e]
  exact onext_led ne
theorem apt_homeV {p q : Pl} {v : Int} : ({ h with home := apt h.home q v } : Hs).homeV p = if q = p then v else h.homeV p := by
  show (agt (apt h.home q v) p).getD 0 = _
  rw [agt_apt]
  by_cases e : q = p
  · rw [if_pos e, if_pos e]; rfl
  · rw [if_neg e, if_neg e]; rfl
/-- the atoms that a row reads are right -/
theorem atm_ok (H : Holds Z Nd) (G : GoOk Z Nd h n0 n M) {r : PRow} (hr : Z.rows[(Z.run n).at_]? = some r) (a : Atm) (ha : ∀ s ∈ a.bx, s ∈ r.rds) : h.worth a = (Z.run n).worth a := by
  cases a with
  | n i => rfl
  | x s => exact G.bx s (H.n1 _ r s hr (ha s (List.mem_singleton.mpr rfl)))
/-- what a row loads or takes of no twin is right -/
theorem rd_ok (R : Z.Rs) (H : Holds Z Nd) (C : Com Z Nd h n0 M X) (G : GoOk Z Nd h n0 n M) (hn0 : n0 ≤ n) (hnM : n ≤ M) {r : PRow} (hr : Z.rows[(Z.run n).at_]? = some r) {p : Pl} (hp : Z.IsP p) (ht : Z.twin p.1 = false) (hg : r.getsT = some p.1)
    (hc : ∀ k a, Z.rows[(Z.run k).at_]? = some (.store p.1 a) → PutsAt Z k p) : h.homeV p = (Z.run n).hv p := by
  rcases G.nt p hp ht with ⟨_, e⟩ | ⟨no, j, j1, j2, e⟩
  · exact e
  · rw [e]
    rcases Nat.le_or_ge j n with q | q
    · have := hv_const R (p := p) (a := j) (n - j) fun k k1 k2 => no k (by omega) (by omega)
      rw [show j + (n - j) = n by omega] at this
      exact this.symm
    · have := hv_const R (p := p) (a := n) (j - n) fun k k1 k2 ⟨rk, hrk, hpk⟩ => by
        have hT : rk.putsT = some p.1 := by
          cases rk with
          | store c a => exact congrArg some (congrArg Prod.fst (Option.some.inj hpk))
          | lay s a b => exact congrArg some (congrArg Prod.fst (Option.some.inj hpk))
          | _ => cases hpk
        have hnk : n ≠ k := fun z => by
          subst z
          rw [hr] at hrk
          cases hrk
          cases r <;> first | cases hg; done | cases hT
        obtain ⟨k', h1, a, h2⟩ := H.sp (fun i => (Z.run (n0 + i)).at_) (n - n0) (k - n0) p.1 ht (by
            show (Z.run n0).at_ = 0 ∨ ∃ bs, agt Z.keepsL (Z.run n0).at_ = some bs
            rw [C.pg.row]
            exact C.pg.st)
          (fun i hi => by
            obtain ⟨r', e1, _, e2⟩ := run_led R (k := n0 + i) (run_alive C.mal _ (by omega))
            exact ⟨r', e1, e2⟩)
          (fun i i0 hi => C.pa (n0 + i) (by omega) (by omega)) (by omega) (by rw [show n0 + (n - n0) = n by omega]; exact ⟨r, hr, hg⟩) (by rw [show n0 + (k - n0) = k by omega]; exact ⟨rk, hrk, hT⟩)
        exact no (n0 + k') (by omega) (by omega) (hc _ a h2)
      rw [show n + (j - n) = j by omega] at this
      exact this
end
end Dn

/-! a row done by a house with failings -/
namespace Dn
open PySem PySem.Spec PyProof.Rows L2
structure Rowd (Z : Hst) (h h1 : Hs) (n0 n M X : Nat) (r : PRow) : Prop where
  w : ∀ b, (r.sets = some b ∨ (r.sets ≠ some b ∧ h.worth (.x b) = (Z.run n).box b)) → h1.worth (.x b) = (Z.run (n + 1)).box b
  dn : h1.done = n + 1
  he : h1.hears = (Z.run (n + 1)).hears
  sa : h1.says = (Z.run (n + 1)).gone.length
  hm : ∀ p, Z.IsP p → Z.twin p.1 = true → h1.homeV p = h.homeV p
  lg : ∀ p, Z.IsP p → Z.twin p.1 = true → (agt h1.log p).getD (h1.homeV p) = (Z.run (n + 1)).hv p
  lt : ∀ q ∈ h1.log, Z.twin q.1.1 = true
  nt : ∀ p, Z.IsP p → Z.twin p.1 = false → ((∃ k, n0 ≤ k ∧ k < n + 1 ∧ PutsAt Z k p) ∧ h1.homeV p = (Z.run (n + 1)).hv p) ∨ ((∀ k, n0 ≤ k → k < n + 1 → ¬ PutsAt Z k p) ∧ ∃ j, n0 ≤ j ∧ j ≤ M ∧ h1.homeV p = (Z.run j).hv p)
  pg : h1.p0 = h.p0 ∧ h1.p1 = h.p1 ∧ h1.front = h.front
  le : h1.letters = (Z.run (max X (n + 1))).gone
  re : h1.rent = false
  nx : isEnd r = false → h.next (Z.run n).at_ r = (Z.run n).next r
  fi : isEnd r = true → h1.fin = (Z.run (n + 1)).res
section
variable {Z : Hst} {Nd : Nat → Str → Prop} {h : Hs} {n0 n M X N : Nat}
theorem nt_ext (R : Z.Rs) (G : GoOk Z Nd h n0 n M) {h1 : Hs} {p : Pl} (hp : Z.IsP p) (ht : Z.twin p.1 = false) (e : h1.homeV p = h.homeV p) (hn : ¬ PutsAt Z n p) :
    ((∃ k, n0 ≤ k ∧ k < n + 1 ∧ PutsAt Z k p) ∧ h1.homeV p = (Z.run (n + 1)).hv p) ∨ ((∀ k, n0 ≤ k → k < n + 1 → ¬ PutsAt Z k p) ∧ ∃ j, n0 ≤ j ∧ j ≤ M ∧ h1.homeV p = (Z.run j).hv p) := by
  rcases G.nt p hp ht with ⟨⟨k, k1, k2, k3⟩, e2⟩ | ⟨no, j, j1, j2, e2⟩
  · exact .inl ⟨⟨k, k1, by omega, k3⟩, by rw [e, e2, hv_succ R hn]⟩
  · refine .inr ⟨fun k k1 k2 => ?_, j, j1, j2, by rw [e, e2]⟩
    rcases Nat.lt_or_ge k n with q | q
    · exact no k k1 q
    · rw [show k = n by omega]; exact hn
theorem le_same (R : Z.Rs) (C : Com Z Nd h n0 M X) (hnM : n ≤ M) (hal : (Z.run n).res = none) {r : PRow} (hr : Z.rows[(Z.run n).at_]? = some r) (hg : ((Z.run n).row Z r).gone = (Z.run n).gone) {h1 : Hs} (e : h1.bn = h.bn) : h1.letters = (Z.run (max X (n + 1))).gone := by
  have e1 : h1.letters = (Z.run X).gone := by
    unfold Hs.letters
    rw [e]
    exact C.le
  have mX := C.mX
  rw [e1]
  rcases Nat.lt_or_ge X (n + 1) with q | q
  · have ex : X = n := by omega
    rw [Nat.max_eq_right (by omega), run_succ hal hr, ex]
    exact hg.symm
  · rw [Nat.max_eq_left q]
theorem isP_ne {p q : Pl} (h1 : Z.twin p.1 = true) (h2 : Z.twin q.1 = false) : p ≠ q := fun e => by
  rw [e, h2] at h1
  cases h1
/-- a row that puts nothing at a place -/
theorem rowd_of (R : Z.Rs) (C : Com Z Nd h n0 M X) (G : GoOk Z Nd h n0 n M) (hnM : n ≤ M) {r : PRow} (hr : Z.rows[(Z.run n).at_]? = some r) {h1 : Hs} (hp : ∀ p, putsAt Z (Z.run n) r ≠ some p)
    (w : ∀ b, (r.sets = some b ∨ (r.sets ≠ some b ∧ h.worth (.x b) = (Z.run n).box b)) → h1.worth (.x b) = ((Z.run n).row Z r).box b) (dn : h1.done = n + 1) (he : h1.hears = ((Z.run n).row Z r).hears) (sa : h1.says = ((Z.run n).row Z r).gone.length)
    (hm : h1.home = h.home) (lg : h1.log = h.log) (pg : h1.p0 = h.p0 ∧ h1.p1 = h.p1 ∧ h1.front = h.front) (le : h1.letters = (Z.run (max X (n + 1))).gone) (re : h1.rent = false) (nx : isEnd r = false → h.next (Z.run n).at_ r = (Z.run n).next r) (fi : isEnd r = true → h1.fin = ((Z.run n).row Z r).res) : Rowd Z h h1 n0 n M X r := by
  have e1 := run_succ G.al hr
  have np : ∀ p, ¬ PutsAt Z n p := fun p ⟨r', hr', hp'⟩ => by
    rw [hr] at hr'
    cases hr'
    exact hp p hp'
  have hv : ∀ p, h1.homeV p = h.homeV p := fun p => by unfold Hs.homeV; rw [hm]
  refine ⟨fun b hb => ?_, dn, ?_, ?_, fun p _ _ => hv p, fun p h2 h3 => ?_, ?_, fun p h2 h3 => nt_ext R G h2 h3 (hv p) (np p), pg, le, re, nx, fun hq => ?_⟩
  · rw [e1]; exact w b hb
  · rw [e1]; exact he
  · rw [e1]; exact sa
  · rw [lg, hv, G.lg p h2 h3, hv_succ R (np p)]
  · rw [lg]; exact G.lt
  · rw [e1]; exact fi hq
/-- a row that puts a value at a place -/
theorem rowd_put (R : Z.Rs) (C : Com Z Nd h n0 M X) (G : GoOk Z Nd h n0 n M) (hn0 : n0 ≤ n) (hnM : n ≤ M) {r : PRow} (hr : Z.rows[(Z.run n).at_]? = some r) {q : Pl} {v : Int} (hq : Z.IsP q) (hp : putsAt Z (Z.run n) r = some q) (hs : r.sets = none) (he : isEnd r = false)
    (hv : ((Z.run n).row Z r).hv = fput (Z.run n).hv q v) (hb : ((Z.run n).row Z r).box = (Z.run n).box) (hh : ((Z.run n).row Z r).hears = (Z.run n).hears) (hg : ((Z.run n).row Z r).gone = (Z.run n).gone) (nx : isEnd r = false → h.next (Z.run n).at_ r = (Z.run n).next r) :
    Rowd Z h (({ h with done := h.done + 1 } : Hs).written Z q v) n0 n M X r := by
  have e1 := run_succ G.al hr
  have pn : PutsAt Z n q := ⟨r, hr, hp⟩
  have np : ∀ p, q ≠ p → ¬ PutsAt Z n p := fun p hne ⟨r', hr', hp'⟩ => by
    rw [hr] at hr'
    cases hr'
    rw [hp] at hp'
    exact hne (Option.some.inj hp')
  have hv1 : ∀ p, (Z.run (n + 1)).hv p = if q = p then v else (Z.run n).hv p := fun p => by
    rw [e1]
    show ((Z.run n).row Z r).hv p = _
    rw [hv]; rfl
  have bn : ∀ h1 : Hs, h1.bn = h.bn → h1.letters = (Z.run (max X (n + 1))).gone := fun h1 e => le_same R C hnM G.al hr hg e
  have wb : ∀ b, (r.sets = some b ∨ (r.sets ≠ some b ∧ h.worth (.x b) = (Z.run n).box b)) → h.worth (.x b) = (Z.run (n + 1)).box b := fun b hb2 => by
    rw [e1]
    show h.worth (.x b) = ((Z.run n).row Z r).box b
    rw [hb]
    rcases hb2 with z | z
    · rw [hs] at z; cases z
    · exact z.2
  have he1 : h.hears = (Z.run (n + 1)).hears := by rw [e1, G.he]; exact hh.symm
  have sa1 : h.says = (Z.run (n + 1)).gone.length := by
    rw [e1, G.sa]
    show _ = ((Z.run n).row Z r).gone.length
    rw [hg]
  have ne : ¬ isEnd r = true := by rw [he]; decide
  unfold Hs.written
  by_cases ht : Z.twin q.1 = true
  · rw [if_pos ht]
    refine ⟨wb, congrArg (· + 1) G.dn, he1, sa1, fun p _ _ => rfl, fun p h2 h3 => ?_, apt_mem (P := fun (q : Pl × Int) => Z.twin q.1.1 = true) G.lt ht, fun p h2 h3 => nt_ext R G h2 h3 rfl (np p (isP_ne ht h3)), ⟨rfl, rfl, rfl⟩, bn _ rfl, C.re, nx, fun z => absurd z ne⟩
    show (agt (apt h.log q v) p).getD (h.homeV p) = _
    rw [hv1, agt_apt]
    by_cases z : q = p
    · rw [if_pos z, if_pos z]; rfl
    · rw [if_neg z, if_neg z]; exact G.lg p h2 h3
  · have ht := Bool.eq_false_iff.mpr ht
    rw [if_neg (by rw [ht]; decide)]
    have hV : ∀ p, ({ h with done := h.done + 1, home := apt h.home q v } : Hs).homeV p = if q = p then v else h.homeV p := fun p => apt_homeV
    refine ⟨wb, congrArg (· + 1) G.dn, he1, sa1, fun p _ h3 => ?_, fun p h2 h3 => ?_, G.lt, fun p h2 h3 => ?_, ⟨rfl, rfl, rfl⟩, bn _ rfl, C.re, nx, fun z => absurd z ne⟩
    · rw [hV, if_neg (isP_ne h3 ht).symm]
    · show (agt h.log p).getD (({ h with done := h.done + 1, home := apt h.home q v } : Hs).homeV p) = _
      rw [hV, if_neg (isP_ne h3 ht).symm, G.lg p h2 h3, hv1, if_neg (isP_ne h3 ht).symm]
    · by_cases z : q = p
      · refine .inl ⟨⟨n, hn0, Nat.lt_succ_self n, z ▸ pn⟩, ?_⟩
        rw [hV, hv1, if_pos z, if_pos z]
      · exact nt_ext R G h2 h3 (by rw [hV, if_neg z]) (np p z)
theorem worth_out (h : Hs) (x b : Str) (v : Int) : (h.out x v).worth (.x b) = if x = b then v else h.worth (.x b) := by
  show (agt (apt h.held x v) b).getD h.dust = _
  rw [agt_apt]
  by_cases q : x = b
  · rw [if_pos q, if_pos q]; rfl
  · rw [if_neg q, if_neg q]; rfl
/-- all rows -/
theorem go_row (R : Z.Rs) (H : Holds Z Nd) (Y : h.Sy) (C : Com Z Nd h n0 M X) (G : GoOk Z Nd h n0 n M) (hn0 : n0 ≤ n) (hnM : n ≤ M) {r : PRow} (hr : Z.rows[(Z.run n).at_]? = some r) : Rowd Z h (Hs.row Z { h with done := h.done + 1 } r) n0 n M X r := by
  have hin := R.r r (List.mem_of_getElem? hr)
  have aw : ∀ a, (∀ s ∈ a.bx, s ∈ r.rds) → h.worth a = (Z.run n).worth a := fun a ha => atm_ok H G hr a ha
  have dn1 : h.done + 1 = n + 1 := congrArg (· + 1) G.dn
  have pgr : h.p0 = h.p0 ∧ h.p1 = h.p1 ∧ h.front = h.front := ⟨rfl, rfl, rfl⟩
  have cellP : ∀ {c : Str}, c ∈ Z.cells.map (·.1) → Z.IsP (c, 0) := fun {c} hc => by
    obtain ⟨x, hx, rfl⟩ := List.mem_map.mp hc
    exact (R.i.cell hx).pl
  have plc : ∀ {s : Str} {a : Atm}, s ∈ Z.shelves.map (·.1) → h.worth a = (Z.run n).worth a → h.place Z s a = (Z.run n).place Z s a ∧ Z.IsP (s, (Z.run n).place Z s a) := fun {s a} hs hw => by
    obtain ⟨x, hx, rfl⟩ := List.mem_map.mp hs
    have e : h.place Z x.1 a = (Z.run n).place Z x.1 a := by unfold Hs.place Ob.place; rw [hw]
    refine ⟨e, ?_⟩
    rw [← e]
    exact (R.i.shelf hx).pl _ (place_lt (R.i.shelf hx)).2
  have seen : ∀ {p : Pl}, Z.IsP p → (Z.twin p.1 = false → h.homeV p = (Z.run n).hv p) → h.seen Z p = (Z.run n).hv p := fun {p} hp hnt => by
    unfold Hs.seen
    by_cases q : Z.twin p.1 = true
    · rw [if_pos q]; exact G.lg p hp q
    · rw [if_neg q]; exact hnt (Bool.eq_false_iff.mpr q)
  -- rows that set a box
  have outc : ∀ {x : Str} {v : Int} {h1 : Hs}, r.sets = some x → ((Z.run n).row Z r).box = fput (Z.run n).box x v → (∀ b, h1.worth (.x b) = if x = b then v else h.worth (.x b)) → ∀ b, (r.sets = some b ∨ (r.sets ≠ some b ∧ h.worth (.x b) = (Z.run n).box b)) → h1.worth (.x b) = ((Z.run n).row Z r).box b := fun {x v h1} hx hb hw b hbb => by
    rw [hw, hb]
    show _ = if x = b then v else (Z.run n).box b
    by_cases z : x = b
    · rw [if_pos z, if_pos z]
    · rw [if_neg z, if_neg z]
      rcases hbb with y | y
      · rw [hx] at y; exact absurd (Option.some.inj y) z
      · exact y.2
  have noset : ∀ {h1 : Hs}, r.sets = none → ((Z.run n).row Z r).box = (Z.run n).box → (∀ b, h1.worth (.x b) = h.worth (.x b)) → ∀ b, (r.sets = some b ∨ (r.sets ≠ some b ∧ h.worth (.x b) = (Z.run n).box b)) → h1.worth (.x b) = ((Z.run n).row Z r).box b := fun {h1} hx hb hw b hbb => by
    rw [hw, hb]
    rcases hbb with y | y
    · rw [hx] at y; cases y
    · exact y.2
  have les : ∀ {h1 : Hs}, ((Z.run n).row Z r).gone = (Z.run n).gone → h1.bn = h.bn → h1.letters = (Z.run (max X (n + 1))).gone := fun {h1} hg e => le_same R C hnM G.al hr hg e
  cases r with
  | copy x a =>
    have ea := aw a fun s hs => hs
    exact rowd_of R C G hnM hr (fun p z => nomatch z) (outc (v := (Z.run n).worth a) rfl rfl fun b => by rw [← ea]; exact worth_out _ x b _) dn1 G.he G.sa rfl rfl pgr (les rfl rfl) C.re (fun _ => rfl) (fun z => nomatch z)
  | op x s a b =>
    have ea := aw a fun s hs => List.mem_append_left _ hs
    have eb := aw b fun s hs => List.mem_append_right _ hs
    exact rowd_of R C G hnM hr (fun p z => nomatch z) (outc (v := valS s ((Z.run n).worth a) ((Z.run n).worth b)) rfl rfl fun y => by rw [← ea, ← eb]; exact worth_out _ x y _) dn1 G.he G.sa rfl rfl pgr (les rfl rfl) C.re (fun _ => rfl) (fun z => nomatch z)
  | load x c =>
    have hP := cellP (show c ∈ _ from hin)
    have es : h.seen Z (c, 0) = (Z.run n).hv (c, 0) := seen hP fun ht => rd_ok R H C G hn0 hnM hr hP ht rfl fun k a hk => ⟨_, hk, rfl⟩
    exact rowd_of R C G hnM hr (fun p z => nomatch z) (outc (v := (Z.run n).hv (c, 0)) rfl rfl fun y => by rw [← es]; exact worth_out _ x y _) dn1 G.he G.sa rfl rfl pgr (les rfl rfl) C.re (fun _ => rfl) (fun z => nomatch z)
  | take x s a =>
    have ea := aw a fun s hs => hs
    obtain ⟨ep, hP⟩ := plc hin.1 ea
    have hnc : s ∉ Z.cells.map (·.1) := fun h => by
      obtain ⟨c, hc, e⟩ := List.mem_map.mp h
      obtain ⟨d, hd, e2⟩ := List.mem_map.mp hin.1
      exact R.i.nds.2.2 c hc d hd (e2.trans e.symm)
    have es : h.seen Z (s, (Z.run n).place Z s a) = (Z.run n).hv (s, (Z.run n).place Z s a) := seen hP fun ht => rd_ok R H C G hn0 hnM hr hP ht rfl fun k b hk => absurd (R.r _ (List.mem_of_getElem? hk)).1 hnc
    exact rowd_of R C G hnM hr (fun p z => nomatch z) (outc (v := (Z.run n).hv (s, (Z.run n).place Z s a)) rfl rfl fun y => by
      rw [← es, ← ep]; exact worth_out _ x y _) dn1 G.he G.sa rfl rfl pgr (les rfl rfl) C.re (fun _ => rfl) (fun z => nomatch z)
  | hear x => exact rowd_of R C G hnM hr (fun p z => nomatch z) (outc (v := Z.coming.getD (Z.run n).hears 0) rfl rfl fun y => by rw [← G.he]; exact worth_out _ x y _) dn1 (congrArg (· + 1) G.he) G.sa rfl rfl pgr (les rfl rfl) C.re (fun _ => rfl) (fun z => nomatch z)
  | ifr a k =>
    have ea := aw a fun s hs => hs
    exact rowd_of R C G hnM hr (fun p z => nomatch z) (noset rfl rfl fun b => rfl) dn1 G.he G.sa rfl rfl pgr (les rfl rfl) C.re (fun _ => by show (if h.worth a = 0 then _ else _) = (if (Z.run n).worth a = 0 then _ else _); rw [ea]) (fun z => nomatch z)
  | go k => exact rowd_of R C G hnM hr (fun p z => nomatch z) (noset rfl rfl fun b => rfl) dn1 G.he G.sa rfl rfl pgr (les rfl rfl) C.re (fun _ => rfl) (fun z => nomatch z)
  | endr a =>
    have ea := aw a fun s hs => hs
    exact rowd_of R C G hnM hr (fun p z => nomatch z) (noset rfl rfl fun b => rfl) dn1 G.he G.sa rfl rfl pgr (les rfl rfl) C.re (fun z => nomatch z) (fun _ => by show some (h.worth a) = some ((Z.run n).worth a); rw [ea])
  | say a =>
    have ea := aw a fun s hs => hs
    have hrow : ((Z.run n).row Z (.say a)).gone = (Z.run n).gone ++ [h.worth a] := by rw [ea]; rfl
    have e1 := run_succ G.al hr
    have mX := C.mX
    have key : agt h.bn h.says = (if X = n then none else some (h.worth a)) := by
      rw [agt_range Y.k]
      have el : (h.bn[h.says]?).map (·.2) = h.letters[h.says]? := by unfold Hs.letters; rw [List.getElem?_map]
      rw [el, C.le]
      by_cases q : X = n
      · rw [if_pos q, q, G.sa, List.getElem?_eq_none (Nat.le_refl _)]
      · rw [if_neg q]
        obtain ⟨t, et⟩ := gone_pre (n := n + 1) (m := X) R (by omega)
        rw [et, e1]
        show (((Z.run n).row Z (.say a)).gone ++ t)[h.says]? = _
        rw [hrow, G.sa, List.append_assoc, List.getElem?_append_right (Nat.le_refl _), Nat.sub_self]
        rfl
    have sa1 : h.says + 1 = ((Z.run n).row Z (.say a)).gone.length := by rw [hrow, List.length_append, G.sa]; rfl
    have say_eq : Hs.row Z { h with done := h.done + 1 } (.say a) = (match agt h.bn h.says with
      | none => { h with done := h.done + 1, bn := apt h.bn h.says (h.worth a), says := h.says + 1 }
      | some u => { h with done := h.done + 1, rent := h.rent || !decide (u = h.worth a), says := h.says + 1 }) := by
      show Hs.say { h with done := h.done + 1 } (h.worth a) = _
      unfold Hs.say
      show (match agt h.bn h.says with | none => _ | some u => _) = _
      cases agt h.bn h.says <;> rfl
    rw [say_eq, key]
    by_cases q : X = n
    · rw [if_pos q]
      refine rowd_of R C G hnM hr (fun p z => nomatch z) (noset rfl rfl fun b => rfl) dn1 G.he sa1 rfl rfl pgr ?_ C.re (fun _ => rfl) (fun z => nomatch z)
      rw [q, Nat.max_eq_right (Nat.le_succ n), e1]
      show (apt h.bn h.says (h.worth a)).map (·.2) = ((Z.run n).row Z (.say a)).gone
      rw [if_pos q] at key
      have hn : ahas h.bn h.says = false := agt_none.mp key
      have ea2 : apt h.bn h.says (h.worth a) = h.bn ++ [(h.says, h.worth a)] := by
        unfold apt
        rw [if_neg (by rw [hn]; decide)]
      rw [ea2, List.map_append, hrow, ← q, ← C.le]
      rfl
    · rw [if_neg q]
      refine rowd_of R C G hnM hr (fun p z => nomatch z) (noset rfl rfl fun b => rfl) dn1 G.he sa1 rfl rfl pgr ?_ ?_ (fun _ => rfl) (fun z => nomatch z)
      · rw [Nat.max_eq_left (by omega)]
        exact C.le
      · show (h.rent || !decide (h.worth a = h.worth a)) = false
        rw [C.re, decide_eq_true rfl]; rfl
  | store c a =>
    have ea := aw a fun s hs => hs
    have hP := cellP hin.1
    have e : Hs.row Z { h with done := h.done + 1 } (.store c a) = ({ h with done := h.done + 1 } : Hs).written Z (c, 0) ((Z.run n).worth a) := by rw [← ea]; rfl
    rw [e]
    exact rowd_put R C G hn0 hnM hr hP rfl rfl rfl rfl rfl rfl rfl (fun _ => rfl)
  | lay s a b =>
    have ea := aw a fun s hs => List.mem_append_left _ hs
    have eb := aw b fun s hs => List.mem_append_right _ hs
    obtain ⟨ep, hP⟩ := plc hin.1 ea
    have e : Hs.row Z { h with done := h.done + 1 } (.lay s a b) = ({ h with done := h.done + 1 } : Hs).written Z (s, (Z.run n).place Z s a) ((Z.run n).worth b) := by rw [← eb, ← ep]; rfl
    rw [e]
    exact rowd_put R C G hn0 hnM hr hP rfl rfl rfl rfl rfl rfl rfl (fun _ => rfl)
end
end Dn

/-! a house with failings keeps to the plain run -/
namespace Dn
open PySem PySem.Spec PyProof.Rows L2
/-! ### writing down, by parts -/
structure Like (g h : Hs) : Prop where
  fr : g.front = h.front
  pg : g.page g.front = h.page h.front
  hm : g.home = h.home
  bn : g.bn = h.bn
  re : g.rent = h.rent
  he : g.held = h.held
  du : g.dust = h.dust
  lo : g.log = h.log
  dn : g.done = h.done
  hs : g.hears = h.hears
  sa : g.says = h.says
theorem Like.refl (h : Hs) : Like h h := ⟨rfl, rfl, rfl, rfl, rfl, rfl, rfl, rfl, rfl, rfl, rfl⟩
theorem Like.trans {a b c : Hs} (x : Like a b) (y : Like b c) : Like a c := ⟨x.fr.trans y.fr, x.pg.trans y.pg, x.hm.trans y.hm, x.bn.trans y.bn, x.re.trans y.re, x.he.trans y.he, x.du.trans y.du, x.lo.trans y.lo, x.dn.trans y.dn, x.hs.trans y.hs, x.sa.trans y.sa⟩
/-! ### the relation -/
structure ArOk (Z : Hst) (Nd : Nat → Str → Prop) (h : Hs) (n0 n : Nat) : Prop where
  al : (Z.run n).res = none
  dn : h.done = n
  he : h.hears = (Z.run n).hears
  sa : h.says = (Z.run n).gone.length
  bx : ∀ b, Nd (Z.run n).at_ b → h.worth (.x b) = (Z.run n).box b
  lg : ∀ p, Z.IsP p → Z.twin p.1 = true → (agt h.log p).getD (h.homeV p) = (Z.run n).hv p
  lt : ∀ q ∈ h.log, Z.twin q.1.1 = true
  ln : (h.log.map (·.1)).Nodup
  nt : ∀ p, Z.IsP p → Z.twin p.1 = false → h.homeV p = (Z.run n).hv p
structure RestOk (Z : Hst) (h : Hs) (M : Nat) : Prop where
  al : (Z.run M).res = none
  fi : h.fin = (Z.run (M + 1)).res
  so : (Z.run (M + 1)).res.isSome = true
  hv : ∀ p, Z.IsP p → h.homeV p = (Z.run (M + 1)).hv p
  le : h.letters = (Z.run (M + 1)).gone
  re : h.rent = false
  cn : (h.page h.front).done = M
inductive Sim (Z : Hst) (Nd : Nat → Str → Prop) (T : Nat) (h : Hs) : Prop
  | up {n0 M X k : Nat} (hX : X ≤ T) (hp : h.ph = .up k) (C : Com Z Nd h n0 M X) (U : UpOk Z h n0 M k) : Sim Z Nd T h
  | go {n0 n M X : Nat} (hX : X ≤ T) (hp : h.ph = .go (Z.run n).at_) (h0 : n0 ≤ n) (hM : n ≤ M) (C : Com Z Nd h n0 M X) (G : GoOk Z Nd h n0 n M) : Sim Z Nd T h
  | keep {n0 n X j : Nat} {bs : List Str} {g : Hs} (hX : X ≤ T) (C : Com Z Nd g n0 n X) (A : ArOk Z Nd g n0 n) (hk : agt Z.keepsL (Z.run n).at_ = some bs) (hj : j < (g.small (Z.run n).at_ bs).length)
      (e : h = { ((g.small (Z.run n).at_ bs).take j).foldl Hs.deed g with ph := .keep (Z.run n).at_ (g.small (Z.run n).at_ bs) j }) : Sim Z Nd T h
  | rest {M : Nat} (hX : M + 1 ≤ T) (hp : h.ph = .rest) (E : RestOk Z h M) : Sim Z Nd T h
section
variable {Z : Hst} {Nd : Nat → Str → Prop} {h g : Hs} {n0 n M X N T : Nat}
theorem Com.like (C : Com Z Nd h n0 M X) {g : Hs} (pg : g.page g.front = h.page h.front) (hm : g.home = h.home) (bn : g.bn = h.bn) (re : g.rent = h.rent) : Com Z Nd g n0 M X := by
  have hv : ∀ p, g.homeV p = h.homeV p := fun p => by unfold Hs.homeV; rw [hm]
  exact ⟨by rw [pg]; exact C.pg, fun p h1 h2 => by rw [pg, hv]; exact C.tw p h1 h2, C.nM, C.mX, C.mal, C.pa, by unfold Hs.letters; rw [bn]; exact C.le, re.trans C.re⟩
/-! ### coming up -/
/-! ### a row -/
end
end Dn

/-! a house with failings keeps to the plain run: writing down, failings, the begin -/
namespace Dn
open PySem PySem.Spec PyProof.Rows L2
section
variable {Z : Hst} {Nd : Nat → Str → Prop} {h g : Hs} {n0 n M X N T : Nat}
theorem Sim.mono (S : Sim Z Nd T h) {T' : Nat} (le : T ≤ T') : Sim Z Nd T' h := by
  cases S with
  | up hX hp C U => exact .up (Nat.le_trans hX le) hp C U
  | go hX hp h0 hM C G => exact .go (Nat.le_trans hX le) hp h0 hM C G
  | keep hX C A hk hj e => exact .keep (Nat.le_trans hX le) C A hk hj e
  | rest hX hp E => exact .rest (Nat.le_trans hX le) hp E
/-! ### the begin -/
/-! ### what is seen of it -/
theorem Sim.let (S : Sim Z Nd T h) : ∃ X, X ≤ T ∧ h.letters = (Z.run X).gone ∧ h.rent = false := by
  cases S with
  | up hX hp C U => exact ⟨_, hX, C.le, C.re⟩
  | go hX hp h0 hM C G => exact ⟨_, hX, C.le, C.re⟩
  | @keep n0 n X j bs g hX C A hk hj e =>
    have q : ∀ (l : List Dd) (f : Hs), (l.foldl Hs.deed f).bn = f.bn ∧ (l.foldl Hs.deed f).rent = f.rent := fun l => by
      induction l with
      | nil => intro f; exact ⟨rfl, rfl⟩
      | cons d l ih =>
        intro f
        rw [List.foldl_cons]
        have : (f.deed d).bn = f.bn ∧ (f.deed d).rent = f.rent := by
          obtain ⟨d1, d2, d3, d4, d5, d6, d7, d8, d9, d10, b, d12, d13, d14⟩ := f
          cases d <;> cases b <;> exact ⟨rfl, rfl⟩
        exact ⟨(ih _).1.trans this.1, (ih _).2.trans this.2⟩
    refine ⟨X, hX, ?_, ?_⟩
    · rw [e]
      unfold Hs.letters
      show ((((g.small (Z.run n).at_ bs).take j).foldl Hs.deed g).bn).map _ = _
      rw [(q _ _).1]
      exact C.le
    · rw [e]
      exact (q _ _).2.trans C.re
  | rest hX hp E => exact ⟨_, hX, E.le, E.re⟩
end
end Dn

/-! what a law sees of a house with failings -/
namespace Dn
open PySem PySem.Spec PyProof.Rows L2
section
variable {Z : Hst} {Nd : Nat → Str → Prop} {h : Hs} {n0 n M X N T i : Nat}
theorem Sim.at_go (S : Sim Z Nd T h) (hp : h.ph = .go i) : ∃ n0 n M X, X ≤ T ∧ (Z.run n).at_ = i ∧ n0 ≤ n ∧ n ≤ M ∧ Com Z Nd h n0 M X ∧ GoOk Z Nd h n0 n M := by
  cases S with
  | up hX hp2 C U => rw [hp] at hp2; cases hp2
  | @go n0 n M X hX hp2 h0 hM C G =>
    rw [hp] at hp2
    cases hp2
    exact ⟨n0, n, M, X, hX, rfl, h0, hM, C, G⟩
  | keep hX C A hk hj e => rw [e] at hp; cases hp
  | rest hX hp2 E => rw [hp] at hp2; cases hp2
/-- where it stands -/
structure StandsOk (Z : Hst) (T : Nat) (h : Hs) (n : Nat) : Prop where
  al : (Z.run n).res = none
  nT : n ≤ T
  dn : h.done = n
  bx : ∀ r, Z.rows[(Z.run n).at_]? = some r → ∀ b ∈ r.rds, h.worth (.x b) = (Z.run n).box b
  le : ∃ X, n ≤ X ∧ X ≤ T ∧ h.letters = (Z.run X).gone
  nx : ∀ r i', Z.rows[(Z.run n).at_]? = some r → (h.step Z).ph = .go i' → (h.step Z).done = n + 1 ∧ ∀ b, r.sets = some b → (h.step Z).worth (.x b) = (Z.run (n + 1)).box b
theorem Sim.stands (R : Z.Rs) (H : Holds Z Nd) (Y : h.Sy) (S : Sim Z Nd T h) (hp : h.ph = .go i) : ∃ n, (Z.run n).at_ = i ∧ StandsOk Z T h n := by
  obtain ⟨n0, n, M, X, hX, rfl, h0, hM, C, G⟩ := S.at_go hp
  have mX := C.mX
  refine ⟨n, rfl, G.al, by omega, G.dn, fun r hr b hb => G.bx b (H.n1 _ r b hr hb), ⟨X, by omega, hX, C.le⟩, fun r i' hr hg => ?_⟩
  have D := go_row R H Y C G h0 hM hr
  rw [step_go hp hr] at hg ⊢
  cases he : isEnd r with
  | true => rw [he, if_pos rfl] at hg; cases hg
  | false =>
    rw [he, if_neg (by decide)] at hg
    rw [if_neg (by decide)]
    unfold Hs.come at hg ⊢
    cases hk : agt Z.keepsL (h.next (Z.run n).at_ r) with
    | some bs => rw [hk] at hg; cases hg
    | none => exact ⟨D.dn, fun b hb => D.w b (.inl hb)⟩
end
end Dn

/-! a store alone: its cells -/
namespace Dn
open PySem PySem.Spec PyProof.Rows L2
def stC (Z : Hst) (L : HL) (h : Hs) : Cs :=
  [(L.st, .ins "Store" (stF L h)), (L.hm, dkP intD h.home), (L.sz, dkS intD Z.szL), (L.p0, .ins "Page" (pgF h.p0 L.h0 L.t0)), (L.h0, .lst (h.p0.held.map bvD)), (L.t0, .lst (h.p0.turned.map tnD)), (L.p1, .ins "Page" (pgF h.p1 L.h1 L.t1)), (L.h1, .lst (h.p1.held.map bvD)), (L.t1, .lst (h.p1.turned.map tnD)), (L.pg, .lst [.loc L.p0, .loc L.p1])]
abbrev SSt (Z : Hst) (S : Sto) (L : HL) (h : Hs) (S' : Sto) (L' : HL) (h' : Hs) : Prop := Stp S (stC Z L h) S' (stC Z L' h') ∧ L'.st = L.st
section
variable {Z : Hst} {S S' S1 : Sto} {L L' L1 : HL} {h h' h1 : Hs}
theorem SSt.trans (a : SSt Z S L h S1 L1 h1) (b : SSt Z S1 L1 h1 S' L' h') : SSt Z S L h S' L' h' := ⟨a.1.trans b.1, b.2.trans a.2⟩
theorem SSt.refl (A : AtS S (stC Z L h)) : SSt Z S L h S L h := ⟨Stp.refl A, rfl⟩
variable (A : AtS S (stC Z L h))
include A
end
end Dn

/-! a house comes to rest within a bound, where the plain run ends -/
namespace Dn
open PySem PySem.Spec PyProof.Rows L2
section
variable {Z : Hst} {Nd : Nat → Str → Prop} {h g : Hs} {N T E c : Nat}
end
end Dn

/-! a slice of a list with a step -/
namespace Dn
open PySem PySem.Spec PyProof.Rows L2
section
variable {X : Cx} {e : Expr} {te : TE} {lo hi : Option Expr} {tl th : TO} {pos p1 p2 : Pos} {k : Int} {kk : Nat}
end
end Dn

/-! the hand's letters never grow fewer -/
namespace Dn
open PySem PySem.Spec PyProof.Rows L2
section
variable {Z : Hst} {h : Hs}
end
end Dn

/-! a plain run that is stepped as it is asked for -/
namespace Dn
open PySem PySem.Spec PyProof.Rows L2
section
variable {Z : Hst} {Nd : Nat → Str → Prop} {h : Hs} {T : Nat}
end
end Dn

/-! a loop that goes on while a question about its count is true -/
namespace Dn
open PySem PySem.Spec PyProof.Rows L2
end Dn

/-! two tuples of the same items -/
namespace Dn
open PySem PySem.Spec PyProof.Rows L2
end Dn

/-! tuple(x), of which the object is known; dict(x) of such a tuple of pairs, or of a list -/
namespace Dn
open PySem PySem.Spec PyProof.Rows L2
section
variable {prog : Program} {w : World} {A : Around} {E : Value → Shared → Prop}
end
section
variable {X : Cx}
theorem Inv.tupN {pins : List (Addr × Obj)} {σ : L2.St} {H : Hp} {s : Shared} {a : Addr} {xs : List V} (I : Inv X pins σ H s) (h : SqN X.K H a xs) : ∃ (o : Obj) (its : Array Value) (n : Nat), s.heap.get? a = some o ∧ o.cls = .type "tuple" ∧ o.dict = none ∧ o.data = .seq its n ∧ Vals xs its.toList ∧ xs.length ≤ sizeLine := by
  obtain ⟨o, its, n, h | ⟨h, hz⟩, h1, h2, h3, h4⟩ := h
  · obtain ⟨e, z, _⟩ := I.hok a _ h
    exact ⟨o, its, n, e, h1, h2, h3, h4, z⟩
  · refine ⟨o, its, n, I.kIn a o h, h1, h2, h3, h4, ?_⟩
    have e2 : its.toList.length = its.size := Array.length_toList
    have e : xs.length = its.toList.length := h4.length
    exact Nat.le_trans (Nat.le_of_eq (e.trans e2)) hz
end
/-! ### denotations -/
end Dn

/-! a house with failings keeps to the plain run: writing down, failings, the begin -/
/-! a house that never fails, whatever its cutting -/
namespace Dn
open PySem PySem.Spec PyProof.Rows L2
abbrev NF : Nat → Str → Prop := fun _ _ => False
section
variable {Z : Hst} {Nd : Nat → Str → Prop} {h g : Hs} {n0 n M X N T : Nat}
/-! ### the relation -/
structure Ar0 (Z : Hst) (h : Hs) (n0 n : Nat) : Prop where
  C : Com Z NF h n0 n n
  A : ArOk Z NF h n0 n
  bx : ∀ b, h.worth (.x b) = (Z.run n).box b
  hm : ∀ p, Z.IsP p → Z.twin p.1 = true → h.homeV p = (Z.run n0).hv p
  h0 : n0 ≤ n
  fi : h.fin = none
structure Go0 (Z : Hst) (h : Hs) (n0 n : Nat) : Prop where
  A : Ar0 Z h n0 n
  kp : n0 < n → agt Z.keepsL (Z.run n).at_ = none
structure Rest0 (Z : Hst) (h : Hs) (n0 n : Nat) : Prop where
  al : (Z.run n).res = none
  so : (Z.run (n + 1)).res.isSome = true
  fi : h.fin = (Z.run (n + 1)).res
  le : h.letters = (Z.run (n + 1)).gone
  re : h.rent = false
  cn : (h.page h.front).done = n0
  kp : n0 < n → agt Z.keepsL (Z.run n).at_ = none
  h0 : n0 ≤ n
  nt : ∀ p, Z.IsP p → Z.twin p.1 = false → h.homeV p = (Z.run (n + 1)).hv p
  tw : ∀ p, Z.IsP p → Z.twin p.1 = true → h.homeV p = (Z.run n0).hv p
  sp : ∀ p, (Z.run (n + 1)).hv p = (Z.run n).hv p
  at_ : (Z.run (n + 1)).at_ = (Z.run n).at_
inductive Sim0 (Z : Hst) (h : Hs) (n : Nat) : Prop
  | up (e : h = Z.init) (hn : n = 0) : Sim0 Z h n
  | go {n0 : Nat} (hp : h.ph = .go (Z.run n).at_) (G : Go0 Z h n0 n) : Sim0 Z h n
  | keep {n0 j : Nat} {bs : List Str} {g : Hs} (A : Ar0 Z g n0 n) (hk : agt Z.keepsL (Z.run n).at_ = some bs) (hj : j < (g.small (Z.run n).at_ bs).length)
      (e : h = { ((g.small (Z.run n).at_ bs).take j).foldl Hs.deed g with ph := .keep (Z.run n).at_ (g.small (Z.run n).at_ bs) j }) : Sim0 Z h n
  | rest {n0 m : Nat} (hn : n = m + 1) (hp : h.ph = .rest) (E : Rest0 Z h n0 m) : Sim0 Z h n
theorem Sim0.at_go {i : Nat} (S : Sim0 Z h n) (hp : h.ph = .go i) : ∃ n0, i = (Z.run n).at_ ∧ Go0 Z h n0 n := by
  cases S with
  | up e hn => rw [e] at hp; cases hp
  | @go n0 hp2 G => rw [hp] at hp2; cases hp2; exact ⟨n0, rfl, G⟩
  | keep A hk hj e => rw [e] at hp; cases hp
  | rest hn hp2 E => rw [hp] at hp2; cases hp2
end
end Dn

/-! a house with failings keeps to the plain run: writing down, failings, the begin -/
/-! == of dicts whose keys are tuples -/
namespace Dn
open PySem PySem.Spec PyProof.Rows L2
section
variable {prog : Program} {w : World} {K : Type} [DecidableEq K] {knd : HeapKind prog w K} {A : Around} {E : Value → Shared → Prop} {s : Shared}
end
section
variable {X : Cx}
end
section
variable {X : Cx} {a b : Expr} {f g : DE} {pos : Pos}
end
end Dn

/-! home as a dict; writing down, step by step -/
namespace Dn
open PySem PySem.Spec PyProof.Rows L2
section
variable {Z : Hst} {g : Pl → Int}
end
/-! ### writing down -/
def Hs.D (g : Hs) (r : Nat) (bs : List Str) (j : Nat) : Hs := ((g.small r bs).take j).foldl Hs.deed g
section
variable {Z : Hst} {g : Hs} {r : Nat} {bs : List Str}
end
end Dn

/-! == of lists whose first element is a dict with tuple keys -/
namespace Dn
open PySem PySem.Spec PyProof.Rows L2
section
variable {prog : Program} {w : World} {A : Around} {s : Shared}
end
section
variable {X : Cx}
end
section
variable {X : Cx} {a b : Expr} {f g : DE} {pos : Pos}
end
/-! ### a dict that is not empty -/
section
variable {X : Cx}
end
section
variable {X : Cx} {a b : Expr} {f g : DE} {pos : Pos}
end
end Dn

/-! how far a breath comes -/
namespace Dn
open PySem PySem.Spec PyProof.Rows L2
section
variable {Z : Hst} {Nd : Nat → Str → Prop} {h : Hs} {N T X : Nat}
end
end Dn

/-! which page counts; how often the plain run comes to a keeping-place -/
namespace Dn
open PySem PySem.Spec PyProof.Rows L2
section
variable {Z : Hst} {Nd : Nat → Str → Prop} {h : Hs} {N T X : Nat}
def PgK (Z : Hst) (p : Pg) : Prop := p.done = 0 ∨ ∃ bs, agt Z.keepsL p.row = some bs
structure Hs.PK (Z : Hst) (h : Hs) : Prop where
  p0 : PgK Z h.p0
  p1 : PgK Z h.p1
  ph : ∀ r l k, h.ph = .keep r l k → (∃ bs, agt Z.keepsL r = some bs) ∧ ∀ r', Dd.page r' ∈ l → r' = r
theorem Hs.PK.like (Y : h.PK Z) {h' : Hs} (a : h'.p0 = h.p0) (b : h'.p1 = h.p1) (c : ∀ r l k, h'.ph = .keep r l k → (∃ bs, agt Z.keepsL r = some bs) ∧ ∀ r', Dd.page r' ∈ l → r' = r) : h'.PK Z := ⟨by rw [a]; exact Y.p0, by rw [b]; exact Y.p1, c⟩
theorem Hs.PK.setBack (Y : h.PK Z) {p : Pg} (hp : PgK Z p) : (h.setBack p).PK Z := by
  unfold Hs.setBack
  split
  · exact ⟨hp, Y.p1, Y.ph⟩
  · exact ⟨Y.p0, hp, Y.ph⟩
theorem Hs.PK.page (Y : h.PK Z) (b : Bool) : PgK Z (h.page b) := by
  cases b
  · exact Y.p0
  · exact Y.p1
theorem Hs.PK.deed (Y : h.PK Z) {d : Dd} (hd : ∀ r, d = .page r → ∃ bs, agt Z.keepsL r = some bs) : (h.deed d).PK Z := by
  cases d with
  | page r => exact Y.setBack (.inr (hd r rfl))
  | box x v => exact Y.setBack (p := { h.back with held := h.back.held ++ [(x, v)] }) (Y.page (!h.front))
  | turn p v => exact Y.setBack (p := { h.back with turned := h.back.turned ++ [(p, v)] }) (Y.page (!h.front))
  | face => exact Y.like rfl rfl Y.ph
  | home p v => exact Y.like rfl rfl Y.ph
theorem Hs.PK.step (Y : h.PK Z) : (h.step Z).PK Z := by
  unfold Hs.step
  split
  · exact Y
  · split
    · exact Y.like rfl rfl (fun r l k e => nomatch e)
    · exact Y.like rfl rfl (fun r l k e => nomatch e)
  · split
    · exact Y
    · rename_i i _ r hr
      obtain ⟨a, b⟩ := row_pages (Z := Z) (h := { h with done := h.done + 1 }) r
      split
      · exact Y.like a b (fun r l k e => nomatch e)
      · unfold Hs.come
        split
        · exact Y.like a b (fun r l k e => nomatch e)
        · rename_i bs e
          refine Y.like a b fun r' l k e2 => ?_
          injection e2 with e3 e4 e5
          refine ⟨⟨bs, by rw [← e3]; exact e⟩, fun r2 hx => ?_⟩
          rw [← e4] at hx
          unfold Hs.small at hx
          simp only [List.mem_append, List.mem_cons, List.mem_map, List.not_mem_nil, or_false, reduceCtorEq, false_or, and_false, exists_false] at hx
          rw [← e3]
          injection hx
  · rename_i r l k hp
    split
    · exact Y
    · rename_i d hd
      have hK := Y.ph r l k hp
      have D := Y.deed (d := d) fun r' e => by
        have := hK.2 r' (by rw [← e]; exact List.mem_of_getElem? hd)
        rw [this]
        exact hK.1
      split
      · refine D.like rfl rfl fun r' l' k' e => ?_
        injection e with e1 e2 e3
        rw [← e1, ← e2]
        exact hK
      · exact D.like rfl rfl (fun r l k e => nomatch e)
end
end Dn

/-! a tuple + a tuple whose object is known -/
namespace Dn
open PySem PySem.Spec PyProof.Rows L2
section
variable {X : Cx} {a b : Expr} {f g : DE} {pos : Pos}
end
end Dn

/-! zip over two lists, read place by place; in range(n); a slice with a step as a cell; what is never reached -/
namespace Dn
open PySem PySem.Spec PyProof.Rows L2
/-! ### in range(n) -/
section
variable {X : Cx}
end
/-! ### a slice with a step, as a cell -/
section
variable {X : Cx} {e : Expr} {te : TE} {lo hi : Option Expr} {tl th : TO} {pos p1 p2 p3 : Pos} {k : Int} {kk : Nat}
/-- a statement that is never reached -/
def dNever : DS := fun _ _ => none
theorem sd_never {X : Cx} {st : Stmt} : SD X st dNever := ⟨⟨fun _ _ _ _ _ _ ⟨_, _, _, _, _, _, _, hf, _⟩ => by cases hf⟩⟩
end
end Dn

/-! zip of a list and a text -/
namespace Dn
open PySem PySem.Spec PyProof.Rows L2
/-- the list at a as it stands at each turn, the text's signs, in new pairs -/
def Itzs (K : PySem.W.Frag) (a : Addr) (b : Str) : It :=
  ⟨fun i H => ∃ (xs : List V) (x : V) (c : Nat), SqL K H a xs ∧ xs[i]? = some x ∧ b.cps[i]? = some c,
    fun i H v H' => ∃ T x c, v = .ref T ∧ H T = none ∧ H' = upd H T (.tup [x, .str ⟨#[c]⟩]) ∧ (∀ xs, SqL K H a xs → xs[i]? = some x) ∧ b.cps[i]? = some c,
    fun i H => ∃ xs : List V, SqL K H a xs ∧ i ≤ xs.length ∧ i ≤ b.cps.size ∧ (i = xs.length ∨ i = b.cps.size)⟩
theorem sep_zs {I a : Nat} (la : a < I) : ZipSep2 (I + 4) (I + 2) (I + 3) I (I + 1) [I, a] [I + 1] := by
  have h4 : ¬ I + 4 = a := by omega
  have h3 : ¬ I + 3 = a := by omega
  have h1 : ¬ I + 1 = a := by omega
  constructor <;> first | omega | (simp only [List.mem_cons, List.not_mem_nil, or_false, not_or]; omega) | (simp; first | exact h4 | exact h3 | exact h1) | simp
theorem turn_zipS {P : Program} {w : World} {K : PySem.W.Frag} {elts : List Expr} {kk : Nat} {tpos : Pos} {a z TI TO i1 i2 : Addr} {b : Str} {t : Tok} (D : ZipSep2 z TI TO i1 i2 [i1, a] [i2]) :
    Turn P w K (.Tuple elts kk tpos) (Itzs K a b) [z, TI, TO, i1, i2] z (fun i h => IsZip h z TI TO .none ∧ IsTupOf2 h TI (.ref i1) (.ref i2) ∧ (∃ x y, IsTupOf2 h TO x y) ∧ h.IsListIter i1 a i ∧ h.IsStrIter i2 (strIterType b) b t i) where
  mem := by simp
  obj := fun i h st c hc => by
    obtain ⟨hz, hTI, ⟨x, y, hTO⟩, ⟨o1, e1, _, d1⟩, ⟨o2, e2, _, d2⟩⟩ := st
    have e' : c = z ∨ c = TI ∨ c = TO ∨ c = i1 ∨ c = i2 := by simpa using hc
    rcases e' with q | q | q | q | q
    · rw [q]; exact ⟨_, hz, fun v q => nomatch q⟩
    · rw [q]; exact ⟨_, hTI, fun v q => nomatch q⟩
    · rw [q]; exact ⟨_, hTO, fun v q => nomatch q⟩
    · rw [q]; exact ⟨o1, e1, fun v q => by rw [d1] at q; cases q⟩
    · rw [q]; exact ⟨o2, e2, fun v q => by rw [d2] at q; cases q⟩
  keep := fun i h h' st k => by
    obtain ⟨hz, hTI, ⟨x, y, hTO⟩, h1, ⟨o2, e2, r2⟩⟩ := st
    exact ⟨k z (by simp) _ hz, k TI (by simp) _ hTI, ⟨x, y, k TO (by simp) _ hTO⟩, h1.at fun o q => k i1 (by simp) o q, ⟨o2, k i2 (by simp) o2 e2, r2⟩⟩
  item := by
    intro X hP hw hK hc i pins s σ H E I hf st hg
    subst hP hw hK
    obtain ⟨hz, hTI, ⟨x0, y0, hTO⟩, h1, h2⟩ := st
    obtain ⟨xs, x, c, hqx, hx, hcb⟩ := hg
    obtain ⟨its, rv, p, _⟩ := I.list hqx
    obtain ⟨u, hu, ru⟩ := rv.get hx
    have hzl : z < s.heap.objs.size := Heap.lt_size hz
    have nai : a ≠ i1 := fun q => by
      obtain ⟨o1, e1, c1, _⟩ := p.isList
      obtain ⟨o2, e2, c2, _⟩ := id h1
      rw [q, e2] at e1
      cases e1
      rw [c2] at c1
      exact absurd c1 (by simp)
    have hlt : i < its.toArray.size := by
      have := (List.getElem?_eq_some_iff.mp hu).1
      simpa using this
    have hlc : i < b.cps.size := by
      have := (Array.getElem?_eq_some_iff.mp hcb).1
      exact this
    refine wpAny_pyNext_zipD2_item D (Draws.list (A := X.A.in1) (I.ok.hd hc) i1 a nai its.toArray) (Draws.text (A := X.A.in1) (I.ok.hd hc) i2 b t) hz hTI hTO ⟨h1, p.isList⟩ h2 hlt hlc fun x1 x2 h' tk P1 P2 z' TO' d1 d2 hT hsz hk => ?_
    have ex1 : x1 = u := by
      have h3 : its.toArray[i]? = some x1 := P1
      have h4 : its.toArray[i]? = some u := by simpa using hu
      rw [h4] at h3
      exact (Option.some.inj h3).symm
    subst ex1
    obtain ⟨c', tc, hc1, rfl⟩ := P2
    have ec : c' = c := by
      rw [hcb] at hc1
      exact (Option.some.inj hc1).symm
    subst ec
    refine ⟨_, rfl, wpAny_letOwnedTupleGo_zip (s := { s with heap := h', toks := tk }) z' fun h'' z'' sb => ?_⟩
    have hT2 : h''.get? s.heap.objs.size = some { cls := .type "tuple", data := .seq #[x1, .str ⟨#[c']⟩ tc] } := (sb.2 _ (Nat.ne_of_gt hzl)).trans hT
    have new : ObjOk X.prog X.w (upd H s.heap.objs.size (.tup [x, .str ⟨#[c']⟩])) h'' s.heap.objs.size (.tup [x, .str ⟨#[c']⟩]) :=
      ⟨by show 2 ≤ sizeLine; decide, [x1, .str ⟨#[c']⟩ tc], .cons ru (.cons ⟨_, rfl⟩ .nil), ⟨_, hT2, rfl, _, rfl⟩⟩
    have I1 : Inv X pins σ (upd H s.heap.objs.size (.tup [x, .str ⟨#[c']⟩])) { s with heap := h'', toks := tk } :=
      I.turnedNew (t' := tk) (ch := [z, TI, TO, i1, i2]) (fun c o hb q => (sb.2 c (fun q' => hb (by simp [q']))).trans (hk c o (fun q' => hb (by simp [q'])) (fun q' => hb (by simp [q'])) (fun q' => hb (by simp [q'])) (fun q' => hb (by simp [q'])) q)) hf (Nat.le_refl _) new
    refine ⟨.ref s.heap.objs.size, _, I1, rfl, ⟨_, x, c', rfl, I.hok.fresh (Nat.le_refl _), rfl, fun l hl => by rw [I.list_inj hl hqx]; exact hx, hcb⟩, ⟨z'', ?_, ⟨x1, .str ⟨#[c']⟩ tc, ?_⟩, ?_, ?_⟩, fun c hcm => ?_⟩
    · exact (sb.2 _ D.TIz).trans (hk _ _ D.TIz D.TITO D.TIi1 D.TIi2 hTI)
    · exact (sb.2 _ D.TOz).trans TO'
    · exact d1.1.at fun o q => (sb.2 _ D.zi1.symm).trans q
    · obtain ⟨o2, e2, r2⟩ := d2
      exact ⟨o2, (sb.2 _ D.zi2.symm).trans e2, r2⟩
    · have hlt : c < s.heap.objs.size := by
        have e' : c = z ∨ c = TI ∨ c = TO ∨ c = i1 ∨ c = i2 := by simpa using hcm
        rcases e' with q | q | q | q | q
        · rw [q]; exact hzl
        · rw [q]; exact Heap.lt_size hTI
        · rw [q]; exact Heap.lt_size hTO
        · rw [q]; obtain ⟨_, e1, _⟩ := h1; exact Heap.lt_size e1
        · rw [q]; obtain ⟨_, e2, _⟩ := h2; exact Heap.lt_size e2
      rw [upd_ne (Nat.ne_of_lt hlt)]
      exact (hf c hcm).1
  done := by
    intro X hP hw hK hc i pins s σ H E I hf st hg
    subst hP hw hK
    obtain ⟨hz, hTI, ⟨x0, y0, hTO⟩, h1, h2⟩ := st
    obtain ⟨xs, hqx, l1, l2, hend⟩ := hg
    obtain ⟨its, rv, p, _⟩ := I.list hqx
    have hl := rv.length
    have nai : a ≠ i1 := fun q => by
      obtain ⟨o1, e1, c1, _⟩ := p.isList
      obtain ⟨o2, e2, c2, _⟩ := id h1
      rw [q, e2] at e1
      cases e1
      rw [c2] at c1
      exact absurd c1 (by simp)
    refine wpAny_pyNext_zipD2_end D (Draws.list (A := X.A.in1) (I.ok.hd hc) i1 a nai its.toArray) (Draws.text (A := X.A.in1) (I.ok.hd hc) i2 b t) hz hTI hTO ⟨h1, p.isList⟩ h2 (by simp; omega) l2 (by simp; omega) fun h' tk hk => ⟨rfl, I.turnedL (t' := tk) (ch := [z, TI, TO, i1, i2]) (fun c o hb q =>
      hk c o (fun q' => hb (by simp [q'])) (fun q' => hb (by simp [q'])) (fun q' => hb (by simp [q'])) (fun q' => hb (by simp [q'])) q) hf⟩
  self := fun A i s Q E st h => wpAny_pyIter_zip st.1 h
def iZipS (K : PySem.W.Frag) (ta : TA) : TI := fun σ H R => ta σ H fun vs H1 => ∃ a b xs, vs = [.ref a, .str b] ∧ SqL K H1 a xs ∧ R (Itzs K a b) H1
theorem pi_zipS {X : Cx} {e e2 : Expr} {ta : TA} {p pos tpos : Pos} {elts : List Expr} {kk : Nat} (hg : Gl X "zip") (hm : X.mg "zip" = none) (ha : PA X [e, e2] ta)
    (hs : starEach [e, e2] X.env = (false, eval e X.env) :: starEach [e2] X.env := by rfl) (hpl : (backTo pos (starEach [e2] X.env)).any (·.1) = false := by rfl) :
    PI X (.Tuple elts kk tpos) (.Call (.Name "zip" p) [e, e2] [] pos) (iZipS X.K ta) := by
  refine ⟨fun pins s σ H R I h => ?_⟩
  refine Call_ (ld_blt I hg hm PyProof.Rows.boot_zip (PyProof.Rows.callWith_type1 (thn (ha.run pos pins s σ H _ I h) fun us s1 ⟨vs, H1, I1, r1, q1⟩ => ?_) hs hpl))
  obtain ⟨a, b, xs, ex, hqx, q⟩ := q1
  subst ex
  cases r1 with
  | cons r rr =>
    cases rr with
    | cons r' rr =>
      cases rr
      cases r
      obtain ⟨t, rfl⟩ := r'
      obtain ⟨its, rv, p1, _⟩ := I1.list hqx
      have la : a < s1.heap.objs.size := p1.lt
      refine zip_begins2 (begins_list a its.toArray) (begins_text b t) p1.isList trivial fun h' hz hTI hTO h1 h2 hsz hk => wpAny_pyIter_zip hz ?_
      have I2 : Inv X pins σ H1 { s1 with heap := h' } := I1.kept (t' := s1.toks) hk
      refine ⟨s1.heap.objs.size + 4, [s1.heap.objs.size + 4, s1.heap.objs.size + 2, s1.heap.objs.size + 3, s1.heap.objs.size, s1.heap.objs.size + 1], _, _, H1, rfl, I2, turn_zipS (t := t) (sep_zs la), ⟨hz, hTI, ⟨_, _, hTO⟩, ⟨_, h1, rfl, rfl⟩, ⟨_, h2, rfl, rfl⟩⟩, fun c hcm => ?_, q⟩
      have e' : c = s1.heap.objs.size + 4 ∨ c = s1.heap.objs.size + 2 ∨ c = s1.heap.objs.size + 3 ∨ c = s1.heap.objs.size ∨ c = s1.heap.objs.size + 1 := by simpa using hcm
      have hle : s1.heap.objs.size ≤ c := by
        rcases e' with z | z | z | z | z
        · rw [z]; exact Nat.le_add_right _ _
        · rw [z]; exact Nat.le_add_right _ _
        · rw [z]; exact Nat.le_add_right _ _
        · rw [z]; exact Nat.le_refl _
        · rw [z]; exact Nat.le_add_right _ _
      exact I1.fpOk hle (I1.hok.fresh hle)
def zipD (ds : List DV) (b : Str) : List DV := (List.zip ds b.cps.toList).map fun p => .tup [p.1, .str ⟨#[p.2]⟩]
theorem walks_zipS {F : Fm} {a : Addr} {b : Str} {ds : List DV} (h : ∀ F' S H, Wk F F' → Rep F' S H → ∃ xs, SqL F.K H a xs ∧ RelL F' ds xs) : Walks (Itzs F.K a b) F (zipD ds b) := fun i F' S H w _ R => by
  obtain ⟨xs, hs, rl⟩ := h F' S H w R
  have hl := rl.length
  have zl : (zipD ds b).length = min ds.length b.cps.size := by
    unfold zipD
    rw [List.length_map, List.length_zip, Array.length_toList (xs := b.cps)]
  refine ⟨fun e => ⟨xs, hs, by omega, by omega, by omega⟩, fun d hd => ?_⟩
  have hi := (List.getElem?_eq_some_iff.mp hd).1
  rw [zl] at hi
  obtain ⟨d0, hd0⟩ : ∃ d0, ds[i]? = some d0 := ⟨_, List.getElem?_eq_getElem (by omega)⟩
  obtain ⟨c, hc⟩ : ∃ c, b.cps[i]? = some c := ⟨_, Array.getElem?_eq_getElem (by omega)⟩
  have ed : d = .tup [d0, .str ⟨#[c]⟩] := by
    unfold zipD at hd
    have hz : (List.zip ds b.cps.toList)[i]? = some (d0, c) := List.getElem?_zip_eq_some.mpr ⟨hd0, by simpa using hc⟩
    rw [List.getElem?_map, hz] at hd
    exact (Option.some.inj hd).symm
  subst ed
  obtain ⟨x, hx, rx⟩ := rl.get hd0
  refine ⟨⟨xs, x, c, hs, hx, hc⟩, fun y H' yl => ?_⟩
  obtain ⟨T, x', c', rfl, hT, rfl, hy, hc'⟩ := yl
  have e := (hy xs hs).symm.trans hx
  cases e
  have e2 := hc'.symm.trans hc
  cases e2
  obtain ⟨R', le⟩ := R.add (o := .tup [x, .str ⟨#[c]⟩]) hT
  exact ⟨_, le, R', T, _, rfl, upd_same, .cons (rx.le le) (.cons rfl rfl)⟩
def iZipLS (f : DA) : DI := fun ρ S => match f ρ S with
  | some ([x, .str b], S1) => (match valL S1 x with
    | some ds => some (zipD ds b, S1)
    | none => none)
  | _ => none
section
variable {X : Cx} {e : Expr} {fa : DA}
theorem id_zipLS {tg : Expr} {es : List Expr} (ha : AD X es fa) (h : ∀ {t : TA}, PA X es t → PI X tg e (iZipS X.K t)) : ID X tg e (iZipLS fa) :=
  .of (h ha.pa) fun F S H ρ σ ds S' Q hk R rr hf hq => by
    unfold iZipLS at hf
    split at hf
    · rename_i x b S1 h1
      split at hf
      · rename_i es hv
        cases hf
        refine rdA.go hk R rr h1 fun F1 H1 vs le hk1 R1 r1 rl => ?_
        obtain ⟨v, vr, rfl, rv, rl⟩ := rl
        obtain ⟨u, ur, rfl, ru, rl⟩ := rl
        cases rl
        obtain rfl := (show u = V.str b from ru)
        obtain ⟨k, rv⟩ := valL_ok R1 rv hv
        obtain ⟨a, xs, rfl, hs, _⟩ := rv.lstSq R1
        rw [← hk1]
        refine ⟨a, b, xs, rfl, hs, hq _ F1 H1 le R1 (walks_zipS fun F' S' H' w R' => ?_)⟩
        obtain ⟨a', xs', e, hs', rl'⟩ := (Rel.wk w _ _ rv).lstSq R'
        cases e
        rw [w.k] at hs'
        exact ⟨xs', hs', rl'⟩
      · cases hf
    · cases hf
end
end Dn

namespace Lk12
open PySem PySem.Spec PyProof.Rows L2 Dn
def b_all_of : DS := (dSeq (dFor (iSeq (dVar 0)) (gSet 2) (dIfS (dBin (pIn true) (dVar 2) (dVar 1)) (dRet (dC (.bl false))) dNext))
  (dRet (dC (.bl true))))
def F_all_of : PL := runF 2 3 b_all_of
def b_is_name : DS := (dRet (dAnd (dChain pLe pLe (dC (.int 1)) (dPrim pLen (aCons (dVar 0) aNil)) (dC (.int 6))) (dPrim (cP (pureOf F_all_of) []) (aCons (dVar 0) (aCons (dC (.str "abcdefghijklmnopqrstuvwxyz")) aNil)))))
def F_is_name : PL := runF 1 1 b_is_name
def b_is_label : DS := (dRet (dAnd (dChain pLe pLe (dC (.int 1)) (dPrim pLen (aCons (dVar 0) aNil)) (dC (.int 8))) (dPrim (cP (pureOf F_all_of) []) (aCons (dVar 0) (aCons (dBin pAdd (dC (.str "abcdefghijklmnopqrstuvwxyz")) (dC (.str "0123456789"))) aNil)))))
def F_is_label : PL := runF 1 1 b_is_label
def b_value_of : DS := (dSeq (dIfS (dOr (dNot (dChain pLe pLe (dC (.int 1)) (dPrim pLen (aCons (dVar 0) aNil)) (dC (.int 13)))) (dNot (dPrim (cP (pureOf F_all_of) []) (aCons (dVar 0) (aCons (dC (.str "0123456789")) aNil))))) (dRet (dC .non)) dNext)
  (dSeq (dIfS (dOr (dAnd (dBin (pEq false) (dBin pIx (dVar 0) (dC (.int 0))) (dC (.str "0"))) (dBin pGt (dPrim pLen (aCons (dVar 0) aNil)) (dC (.int 1)))) (dBin pGe (dPrim pInt (aCons (dVar 0) aNil)) (dC (.int 1099511627776)))) (dRet (dC .non)) dNext)
  (dRet (dPrim pInt (aCons (dVar 0) aNil)))))
def F_value_of : PL := runF 1 1 b_value_of
def b_atom_of : DS := (dSeq (dIfS (dPrim (cP (pureOf F_is_name) []) (aCons (dVar 0) aNil)) (dRet (dVar 0)) dNext)
  (dRet (dPrim (cP (pureOf F_value_of) []) (aCons (dVar 0) aNil))))
def F_atom_of : PL := runF 1 1 b_atom_of
def b_given_of : DS := (dSeq (dIfS (dOr (dNot (dPrim (cP (pureOf F_is_name) []) (aCons (dBin pIx (dVar 0) (dC (.int 0))) aNil))) (dBin (pIs false) (dPrim (cP (pureOf F_atom_of) []) (aCons (dBin pIx (dVar 0) (dC (.int 2))) aNil)) (dC .non))) (dRet (dC .non)) dNext)
  (dSeq (dIfS (dBin (pEq false) (dPrim pLen (aCons (dVar 0) aNil)) (dC (.int 3))) (dRet (dPrim pTup (aCons (dC (.str "copy")) (aCons (dBin pIx (dVar 0) (dC (.int 0))) (aCons (dPrim (cP (pureOf F_atom_of) []) (aCons (dBin pIx (dVar 0) (dC (.int 2))) aNil)) aNil))))) dNext)
  (dSeq (dIfS (dOr (dBin (pEq true) (dPrim pLen (aCons (dVar 0) aNil)) (dC (.int 5))) (dOr (dBin (pIn true) (dBin pIx (dVar 0) (dC (.int 3))) (dC (.tupx (t_SIGNS.map dvD)))) (dBin (pIs false) (dPrim (cP (pureOf F_atom_of) []) (aCons (dBin pIx (dVar 0) (dC (.int 4))) aNil)) (dC .non)))) (dRet (dC .non)) dNext)
  (dRet (dPrim pTup (aCons (dC (.str "op")) (aCons (dBin pIx (dVar 0) (dC (.int 0))) (aCons (dBin pIx (dVar 0) (dC (.int 3))) (aCons (dPrim (cP (pureOf F_atom_of) []) (aCons (dBin pIx (dVar 0) (dC (.int 2))) aNil)) (aCons (dPrim (cP (pureOf F_atom_of) []) (aCons (dBin pIx (dVar 0) (dC (.int 4))) aNil)) aNil))))))))))
def F_given_of : PL := runF 1 1 b_given_of
def b_forms_of : DS := (dSeq (dIfS (dBin (pEq false) (dVar 0) (dC (.str "load"))) (dRet (dC (.str "nn"))) dNext)
  (dSeq (dIfS (dBin (pEq false) (dVar 0) (dC (.str "store"))) (dRet (dC (.str "na"))) dNext)
  (dSeq (dIfS (dBin (pEq false) (dVar 0) (dC (.str "take"))) (dRet (dC (.str "nna"))) dNext)
  (dSeq (dIfS (dBin (pEq false) (dVar 0) (dC (.str "lay"))) (dRet (dC (.str "naa"))) dNext)
  (dSeq (dIfS (dBin (pEq false) (dVar 0) (dC (.str "hear"))) (dRet (dC (.str "n"))) dNext)
  (dSeq (dIfS (dOr (dBin (pEq false) (dVar 0) (dC (.str "say"))) (dBin (pEq false) (dVar 0) (dC (.str "end")))) (dRet (dC (.str "a"))) dNext)
  (dSeq (dIfS (dBin (pEq false) (dVar 0) (dC (.str "if"))) (dRet (dC (.str "al"))) dNext)
  (dSeq (dIfS (dBin (pEq false) (dVar 0) (dC (.str "go"))) (dRet (dC (.str "l"))) dNext)
  (dRet (dC (.str "")))))))))))
def F_forms_of : PL := runF 1 1 b_forms_of
def b_part_of : DS := (dSeq (dIfS (dBin (pEq false) (dVar 1) (dC (.str "a"))) (dRet (dPrim (cP (pureOf F_atom_of) []) (aCons (dVar 0) aNil))) dNext)
  (dSeq (dIfS (dOr (dAnd (dBin (pEq false) (dVar 1) (dC (.str "n"))) (dPrim (cP (pureOf F_is_name) []) (aCons (dVar 0) aNil))) (dAnd (dBin (pEq false) (dVar 1) (dC (.str "l"))) (dPrim (cP (pureOf F_is_label) []) (aCons (dVar 0) aNil)))) (dRet (dVar 0)) dNext)
  (dRet (dC .non))))
def F_part_of : PL := runF 2 2 b_part_of
def b_row_of : DS := (dSeq (dIfS (dAnd (dBin pGt (dPrim pLen (aCons (dVar 0) aNil)) (dC (.int 2))) (dBin (pEq false) (dBin pIx (dVar 0) (dC (.int 1))) (dC (.str "=")))) (dRet (dPrim (cP (pureOf F_given_of) []) (aCons (dVar 0) aNil))) dNext)
  (dSeq (dSet 1 (dPrim (cP (pureOf F_forms_of) []) (aCons (dBin pIx (dVar 0) (dC (.int 0))) aNil)))
  (dSeq (dIfS (dOr (dBin (pEq false) (dVar 1) (dC (.str ""))) (dBin (pEq true) (dPrim pLen (aCons (dVar 0) aNil)) (dBin pAdd (dPrim pLen (aCons (dVar 1) aNil)) (dC (.int 1))))) (dRet (dC .non)) dNext)
  (dSeq (dSet 2 (dLc (iZipLS (aCons (dSl pSl (dVar 0) (oSome (dC (.int 1))) oNone) (aCons (dVar 1) aNil))) (gTupD 2 (gsCons (gSet 3) (gsCons (gSet 4) gsNil))) (dC (.bl true)) (dPrim (cP (pureOf F_part_of) []) (aCons (dVar 3) (aCons (dVar 4) aNil))) [3, 4]))
  (dSeq (dIfS (dBin (pIn false) (dC .non) (dVar 2)) (dRet (dC .non)) dNext)
  (dRet (dBin pAdd (dPrim pTup (aCons (dBin pIx (dVar 0) (dC (.int 0))) aNil)) (dPrim pTuple (aCons (dVar 2) aNil)))))))))
def F_row_of : PL := runF 1 5 b_row_of
def b_told_of : DS := (dSeq (dIfS (dOr (dBin (pEq true) (dPrim pLen (aCons (dVar 0) aNil)) (dC (.int 3))) (dOr (dNot (dPrim (cP (pureOf F_is_name) []) (aCons (dBin pIx (dVar 0) (dC (.int 1))) aNil))) (dBin (pIs false) (dPrim (cP (pureOf F_value_of) []) (aCons (dBin pIx (dVar 0) (dC (.int 2))) aNil)) (dC .non)))) (dRet (dC .non)) dNext)
  (dSeq (dIfS (dAnd (dBin (pIn false) (dBin pIx (dVar 0) (dC (.int 0))) (dPrim pTup (aCons (dC (.str "shelf")) (aCons (dC (.str "twins")) aNil)))) (dNot (dChain pLe pLe (dC (.int 1)) (dPrim (cP (pureOf F_value_of) []) (aCons (dBin pIx (dVar 0) (dC (.int 2))) aNil)) (dC (.int 8))))) (dRet (dC .non)) dNext)
  (dRet (dPrim pTup (aCons (dBin pIx (dVar 0) (dC (.int 1))) (aCons (dPrim (cP (pureOf F_value_of) []) (aCons (dBin pIx (dVar 0) (dC (.int 2))) aNil)) (aCons (dBin (pIn false) (dBin pIx (dVar 0) (dC (.int 0))) (dPrim pTup (aCons (dC (.str "twin")) (aCons (dC (.str "twins")) aNil)))) aNil)))))))
def F_told_of : PL := runF 1 1 b_told_of
def b_item_of : DS := (dSeq (dIfS (dOr (dAnd (dBin pGt (dPrim pLen (aCons (dVar 0) aNil)) (dC (.int 2))) (dBin (pEq false) (dBin pIx (dVar 0) (dC (.int 1))) (dC (.str "=")))) (dBin (pIn true) (dBin pIx (dVar 0) (dC (.int 0))) (dPrim pTup (aCons (dC (.str "cell")) (aCons (dC (.str "twin")) (aCons (dC (.str "shelf")) (aCons (dC (.str "twins")) (aCons (dC (.str "at")) aNil)))))))) (dSeq (dSet 3 (dPrim (cP (pureOf F_row_of) []) (aCons (dVar 0) aNil)))
  (dSeq (dIfS (dBin (pIs false) (dVar 3) (dC .non)) (dRet (dC .non)) dNext)
  (dRet (dPrim pTup (aCons (dC (.str "row")) (aCons (dVar 3) aNil)))))) dNext)
  (dSeq (dIfS (dBin (pEq false) (dBin pIx (dVar 0) (dC (.int 0))) (dC (.str "at"))) (dSeq (dIfS (dOr (dBin (pEq true) (dPrim pLen (aCons (dVar 0) aNil)) (dC (.int 2))) (dNot (dPrim (cP (pureOf F_is_label) []) (aCons (dBin pIx (dVar 0) (dC (.int 1))) aNil)))) (dRet (dC .non)) dNext)
  (dRet (dPrim pTup (aCons (dC (.str "label")) (aCons (dBin pIx (dVar 0) (dC (.int 1))) aNil))))) dNext)
  (dSeq (dSet 2 (dPrim (cP (pureOf F_told_of) []) (aCons (dVar 0) aNil)))
  (dSeq (dIfS (dOr (dBin (pIs false) (dVar 2) (dC .non)) (dVar 1)) (dRet (dC .non)) dNext)
  (dSeq (dIfS (dBin (pIn false) (dBin pIx (dVar 0) (dC (.int 0))) (dPrim pTup (aCons (dC (.str "cell")) (aCons (dC (.str "twin")) aNil)))) (dRet (dPrim pTup (aCons (dC (.str "cell")) (aCons (dVar 2) aNil)))) dNext)
  (dRet (dPrim pTup (aCons (dC (.str "shelf")) (aCons (dVar 2) aNil)))))))))
def F_item_of : PL := runF 2 4 b_item_of
def b_items_of : DS := (dSeq (dSet 1 (dPrim pLstM aNil))
  (dSeq (dSet 2 (dC (.bl false)))
  (dSeq (dFor (iEnum2 (aCons (dM1 (pSplit false) (dVar 0) (dC (.str "\n"))) aNil)) (gTupD 2 (gsCons (gSet 3) (gsCons (gSet 4) gsNil))) (dSeq (dSet 5 (dPrim (cP (pureOf F_item_of) []) (aCons (dM1 (pSplit false) (dVar 4) (dC (.str " "))) (aCons (dVar 2) aNil))))
  (dSeq (dIfS (dBin (pIs false) (dVar 5) (dC .non)) dNever dNext)
  (dSeq (dSet 2 (dOr (dVar 2) (dBin (pIn false) (dBin pIx (dVar 5) (dC (.int 0))) (dPrim pTup (aCons (dC (.str "row")) (aCons (dC (.str "label")) aNil))))))
  (dExpr (dMt pAppend (dVar 1) (aCons (dVar 5) aNil)))))))
  (dRet (dVar 1)))))
def F_items_of : PL := runF 1 6 b_items_of
def b_need_once : DS := (dSeq (dSet 1 (fun _ S => some (.loc S.length, S ++ [.dik [] []])))
  (dSeq (dSet 2 (fun _ S => some (.loc S.length, S ++ [.dik [] []])))
  (dFor (iSeq (dVar 0)) (gTupD 2 (gsCons (gSet 3) (gsCons (gSet 4) gsNil))) (dIfS (dBin (pEq false) (dVar 3) (dC (.str "label"))) (dSeq (dIfS (dBin (pIn false) (dVar 4) (dVar 2)) dNever dNext)
  (dSub (dC (.bl true)) (dVar 2) (dVar 4))) (dIfS (dBin (pEq true) (dVar 3) (dC (.str "row"))) (dSeq (dIfS (dBin (pIn false) (dBin pIx (dVar 4) (dC (.int 0))) (dVar 1)) dNever dNext)
  (dSub (dC (.bl true)) (dVar 1) (dBin pIx (dVar 4) (dC (.int 0))))) dNext)))))
def F_need_once : PL := runF 1 5 b_need_once
def b_seats_of : DS := (dSeq (dSet 1 (fun _ S => some (.loc S.length, S ++ [.dik [] []])))
  (dSeq (dSet 2 (dC (.int 0)))
  (dSeq (dFor (iSeq (dVar 0)) (gTupD 2 (gsCons (gSet 3) (gsCons (gSet 4) gsNil))) (dIfS (dBin (pEq false) (dVar 3) (dC (.str "label"))) (dSub (dVar 2) (dVar 1) (dVar 4)) (dIfS (dBin (pEq false) (dVar 3) (dC (.str "row"))) (dAug 2 pAddI (dC (.int 1))) dNext)))
  (dRet (dVar 1)))))
def F_seats_of : PL := runF 1 5 b_seats_of
def b_led : DS := (dSeq (dIfS (dAnd (dBin (pEq true) (dBin pIx (dVar 0) (dC (.int 0))) (dC (.str "go"))) (dBin (pEq true) (dBin pIx (dVar 0) (dC (.int 0))) (dC (.str "if")))) (dRet (dVar 0)) dNext)
  (dSeq (dIfS (dBin (pIn true) (dBin pIx (dVar 0) (dUn pNeg (dC (.int 1)))) (dVar 1)) dNever dNext)
  (dRet (dBin pAdd (dSl pSl (dVar 0) oNone (oSome (dUn pNeg (dC (.int 1))))) (dPrim pTup (aCons (dBin pIx (dVar 1) (dBin pIx (dVar 0) (dUn pNeg (dC (.int 1))))) aNil))))))
def F_led : PL := runF 2 2 b_led
def b_read : DS := (dSeq (dSet 1 (dPrim (cP (pureOf F_items_of) []) (aCons (dVar 0) aNil)))
  (dSeq (dExpr (dPrim (cP (pureOf F_need_once) []) (aCons (dVar 1) aNil)))
  (dSeq (dSet 2 (dPrim (cP (pureOf F_seats_of) []) (aCons (dVar 1) aNil)))
  (dSeq (dSet 3 (dPrim pTuple (aCons (dLc (iSeq (dVar 1)) (gTupD 2 (gsCons (gSet 6) (gsCons (gSet 7) gsNil))) (dBin (pEq false) (dVar 6) (dC (.str "cell"))) (dVar 7) [6, 7]) aNil)))
  (dSeq (dSet 4 (dPrim pTuple (aCons (dLc (iSeq (dVar 1)) (gTupD 2 (gsCons (gSet 6) (gsCons (gSet 7) gsNil))) (dBin (pEq false) (dVar 6) (dC (.str "shelf"))) (dVar 7) [6, 7]) aNil)))
  (dSeq (dSet 5 (dPrim pTuple (aCons (dLc (iSeq (dVar 1)) (gTupD 2 (gsCons (gSet 6) (gsCons (gSet 7) gsNil))) (dBin (pEq false) (dVar 6) (dC (.str "row"))) (dPrim (cP (pureOf F_led) []) (aCons (dVar 7) (aCons (dVar 2) aNil))) [6, 7]) aNil)))
  (dRet (dPrim pTup (aCons (dVar 3) (aCons (dVar 4) (aCons (dVar 5) aNil)))))))))))
def F_read : PL := runF 1 8 b_read
def b_line_of : DS := (dSeq (dIfS (dBin (pEq false) (dBin pIx (dVar 0) (dC (.int 0))) (dC (.str "copy"))) (dRet (dBin pAdd (dBin pAdd (dBin pIx (dVar 0) (dC (.int 1))) (dC (.str " = "))) (dPrim pStr (aCons (dBin pIx (dVar 0) (dC (.int 2))) aNil)))) dNext)
  (dSeq (dIfS (dBin (pEq false) (dBin pIx (dVar 0) (dC (.int 0))) (dC (.str "op"))) (dRet (dBin pAdd (dBin pAdd (dBin pAdd (dBin pAdd (dBin pAdd (dBin pAdd (dBin pIx (dVar 0) (dC (.int 1))) (dC (.str " = "))) (dPrim pStr (aCons (dBin pIx (dVar 0) (dC (.int 3))) aNil))) (dC (.str " "))) (dBin pIx (dVar 0) (dC (.int 2)))) (dC (.str " "))) (dPrim pStr (aCons (dBin pIx (dVar 0) (dC (.int 4))) aNil)))) dNext)
  (dSeq (dIfS (dOr (dBin (pEq false) (dBin pIx (dVar 0) (dC (.int 0))) (dC (.str "go"))) (dBin (pEq false) (dBin pIx (dVar 0) (dC (.int 0))) (dC (.str "if")))) (dRet (dBin pAdd (dBin pAdd (dM1 pJoin (dC (.str " ")) (dLc (iSeq (dSl pSl (dVar 0) oNone (oSome (dUn pNeg (dC (.int 1)))))) (gSet 1) (dC (.bl true)) (dPrim pStr (aCons (dVar 1) aNil)) [1])) (dC (.str " r"))) (dPrim pStr (aCons (dBin pIx (dVar 0) (dUn pNeg (dC (.int 1)))) aNil)))) dNext)
  (dRet (dM1 pJoin (dC (.str " ")) (dLc (iSeq (dVar 0)) (gSet 1) (dC (.bl true)) (dPrim pStr (aCons (dVar 1) aNil)) [1]))))))
def F_line_of : PL := runF 1 2 b_line_of
def b_write : DS := (dSeq (dAsg (dVar 0) (gTupD 3 (gsCons (gSet 3) (gsCons (gSet 4) (gsCons (gSet 5) gsNil)))))
  (dSeq (dSet 1 (dPrim pLstM aNil))
  (dSeq (dFor (iSeq (dVar 3)) (gTupD 3 (gsCons (gSet 6) (gsCons (gSet 7) (gsCons (gSet 8) gsNil)))) (dExpr (dMt pAppend (dVar 1) (aCons (dBin pAdd (dBin pAdd (dBin pAdd (dBin pAdd (dBin pIx (dPrim pLst (aCons (dC (.str "cell")) (aCons (dC (.str "twin")) aNil))) (dPrim pInt (aCons (dVar 8) aNil))) (dC (.str " "))) (dVar 6)) (dC (.str " "))) (dPrim pStr (aCons (dVar 7) aNil))) aNil))))
  (dSeq (dFor (iSeq (dVar 4)) (gTupD 3 (gsCons (gSet 6) (gsCons (gSet 9) (gsCons (gSet 8) gsNil)))) (dExpr (dMt pAppend (dVar 1) (aCons (dBin pAdd (dBin pAdd (dBin pAdd (dBin pAdd (dBin pIx (dPrim pLst (aCons (dC (.str "shelf")) (aCons (dC (.str "twins")) aNil))) (dPrim pInt (aCons (dVar 8) aNil))) (dC (.str " "))) (dVar 6)) (dC (.str " "))) (dPrim pStr (aCons (dVar 9) aNil))) aNil))))
  (dSeq (dSet 2 (dLc (iSeq (dVar 5)) (gSet 11) (dOr (dBin (pEq false) (dBin pIx (dVar 11) (dC (.int 0))) (dC (.str "go"))) (dBin (pEq false) (dBin pIx (dVar 11) (dC (.int 0))) (dC (.str "if")))) (dBin pIx (dVar 11) (dUn pNeg (dC (.int 1)))) [11]))
  (dSeq (dFor (iEnum2 (aCons (dVar 5) aNil)) (gTupD 2 (gsCons (gSet 10) (gsCons (gSet 11) gsNil))) (dSeq (dIfS (dBin (pIn false) (dVar 10) (dVar 2)) (dExpr (dMt pAppend (dVar 1) (aCons (dBin pAdd (dC (.str "at r")) (dPrim pStr (aCons (dVar 10) aNil))) aNil))) dNext)
  (dExpr (dMt pAppend (dVar 1) (aCons (dPrim (cP (pureOf F_line_of) []) (aCons (dVar 11) aNil)) aNil)))))
  (dSeq (dIfS (dBin (pIn false) (dPrim pLen (aCons (dVar 5) aNil)) (dVar 2)) (dExpr (dMt pAppend (dVar 1) (aCons (dBin pAdd (dC (.str "at r")) (dPrim pStr (aCons (dPrim pLen (aCons (dVar 5) aNil)) aNil))) aNil))) dNext)
  (dRet (dM1 pJoin (dC (.str "\n")) (dVar 1))))))))))
def F_write : PL := runF 1 12 b_write
def b_law_cell : DS := (dSeq (dIfS (dBin pLt (dVar 1) (dPrim pLen (aCons (dVar 0) aNil))) (dRet (dBin pIx (dVar 0) (dVar 1))) dNext)
  (dSeq (dSet 2 (dC (.int 7)))
  (dSeq (dIfS (dBin pGt (dPrim pLen (aCons (dVar 0) aNil)) (dC (.int 0))) (dSet 2 (dBin pMod (dBin pIx (dVar 0) (dBin pMod (dVar 1) (dPrim pLen (aCons (dVar 0) aNil)))) (dC (.int 999983)))) dNext)
  (dRet (dBin pMod (dBin pMul (dBin pAdd (dBin pAdd (dVar 2) (dBin pMul (dC (.int 613)) (dVar 1))) (dC (.int 29))) (dBin pAdd (dBin pAdd (dVar 2) (dBin pMul (dC (.int 71)) (dVar 1))) (dC (.int 5)))) (dC (.int 1000003)))))))
def F_law_cell : PL := runF 2 3 b_law_cell
def b_law_part : DS := (dSeq (dSet 3 (dPrim pTup (aCons (dC (.int 10007)) (aCons (dC (.int 10009)) (aCons (dC (.int 10037)) (aCons (dC (.int 10039)) (aCons (dC (.int 10061)) (aCons (dC (.int 10067)) (aCons (dC (.int 10069)) (aCons (dC (.int 10079)) aNil))))))))))
  (dRet (dBin pMod (dBin pMod (dBin pAdd (dBin pMul (dVar 0) (dC (.int 48271))) (dBin pMul (dC (.int 7919)) (dVar 1))) (dBin pIx (dVar 3) (dBin pMod (dVar 1) (dC (.int 8))))) (dVar 2))))
def F_law_part : PL := runF 3 4 b_law_part
def b_law_name : DS := (dSeq (dSet 2 (dC (.str "abcdefghijklmnopqrstuvwxyz")))
  (dSeq (dSet 3 (dPrim pLst (aCons (dC (.str "at")) (aCons (dC (.str "cell")) (aCons (dC (.str "twin")) (aCons (dC (.str "shelf")) (aCons (dC (.str "twins")) (aCons (dC (.str "load")) (aCons (dC (.str "store")) (aCons (dC (.str "take")) (aCons (dC (.str "lay")) (aCons (dC (.str "hear")) (aCons (dC (.str "say")) (aCons (dC (.str "end")) (aCons (dC (.str "if")) (aCons (dC (.str "go")) aNil))))))))))))))))
  (dSeq (dSet 4 (dBin (pEq false) (dPrim (cP (pureOf F_law_part) []) (aCons (dVar 0) (aCons (dC (.int 5)) (aCons (dC (.int 4)) aNil)))) (dC (.int 1))))
  (dSeq (dIfS (dAnd (dVar 4) (dBin pLt (dVar 1) (dC (.int 12)))) (dRet (dBin pIx (dVar 3) (dBin pMod (dBin pAdd (dVar 1) (dPrim (cP (pureOf F_law_part) []) (aCons (dVar 0) (aCons (dC (.int 6)) (aCons (dC (.int 14)) aNil))))) (dC (.int 14))))) dNext)
  (dSeq (dSet 5 (dBin pAdd (dC (.int 1)) (dPrim (cP (pureOf F_law_part) []) (aCons (dVar 0) (aCons (dC (.int 7)) (aCons (dBin pSub (dC (.int 6)) (dPrim pInt (aCons (dVar 4) aNil))) aNil))))))
  (dSeq (dSet 6 (dLcM (iRange1 (aCons (dVar 5) aNil)) (gSet 7) (dC (.bl true)) (dBin pIx (dVar 2) (dPrim (cP (pureOf F_law_part) []) (aCons (dVar 0) (aCons (dVar 7) (aCons (dC (.int 26)) aNil))))) [7]))
  (dSeq (dSub (dBin pIx (dVar 2) (dBin pMod (dBin pAdd (dPrim (cP (pureOf F_law_part) []) (aCons (dVar 0) (aCons (dC (.int 4)) (aCons (dC (.int 26)) aNil)))) (dVar 1)) (dC (.int 26)))) (dVar 6) (dPrim (cP (pureOf F_law_part) []) (aCons (dVar 0) (aCons (dC (.int 3)) (aCons (dVar 5) aNil)))))
  (dRet (dBin pAdd (dM1 pJoin (dC (.str "")) (dVar 6)) (dBin pMulS (dC (.str "q")) (dPrim pInt (aCons (dVar 4) aNil))))))))))))
def F_law_name : PL := runF 2 8 b_law_name
def b_law_atom : DS := (dSeq (dSet 3 (dPrim (cP (pureOf F_law_part) []) (aCons (dVar 0) (aCons (dVar 1) (aCons (dC (.int 5)) aNil)))))
  (dSeq (dIfS (dBin (pEq false) (dVar 3) (dC (.int 0))) (dRet (dBin pIx (dPrim pLst (aCons (dC (.int 0)) (aCons (dC (.int 1)) (aCons (dC (.int 9)) (aCons (dC (.int 10)) (aCons (dBin pSub (dBin pPow (dC (.int 2)) (dC (.int 40))) (dC (.int 1))) (aCons (dBin pPow (dC (.int 2)) (dC (.int 39))) aNil))))))) (dPrim (cP (pureOf F_law_part) []) (aCons (dVar 0) (aCons (dBin pAdd (dVar 1) (dC (.int 1))) (aCons (dC (.int 6)) aNil)))))) dNext)
  (dSeq (dIfS (dBin (pEq false) (dVar 3) (dC (.int 1))) (dRet (dBin pMod (dBin pMul (dVar 0) (dC (.int 94906267))) (dBin pPow (dC (.int 2)) (dC (.int 40))))) dNext)
  (dRet (dPrim (cP (pureOf F_law_name) []) (aCons (dVar 2) (aCons (dPrim (cP (pureOf F_law_part) []) (aCons (dVar 0) (aCons (dBin pAdd (dVar 1) (dC (.int 1))) (aCons (dC (.int 12)) aNil)))) aNil)))))))
def F_law_atom : PL := runF 3 4 b_law_atom
def b_law_row : DS := (dSeq (dSet 3 (dPrim (cP (pureOf F_law_name) []) (aCons (dVar 1) (aCons (dPrim (cP (pureOf F_law_part) []) (aCons (dVar 0) (aCons (dC (.int 2)) (aCons (dC (.int 12)) aNil)))) aNil))))
  (dSeq (dSet 4 (dPrim (cP (pureOf F_law_atom) []) (aCons (dVar 0) (aCons (dC (.int 3)) (aCons (dVar 1) aNil)))))
  (dSeq (dSet 5 (dPrim (cP (pureOf F_law_atom) []) (aCons (dVar 0) (aCons (dC (.int 5)) (aCons (dVar 1) aNil)))))
  (dSeq (dSet 6 (dPrim (cP (pureOf F_law_name) []) (aCons (dVar 1) (aCons (dBin pAdd (dC (.int 4)) (dPrim (cP (pureOf F_law_part) []) (aCons (dVar 0) (aCons (dC (.int 7)) (aCons (dC (.int 20)) aNil))))) aNil))))
  (dSeq (dSet 7 (dPrim (cP (pureOf F_law_part) []) (aCons (dVar 0) (aCons (dC (.int 0)) (aCons (dC (.int 12)) aNil)))))
  (dSeq (dIfS (dBin pLt (dVar 7) (dC (.int 2))) (dRet (dPrim pTup (aCons (dC (.str "copy")) (aCons (dVar 3) (aCons (dVar 4) aNil))))) dNext)
  (dSeq (dIfS (dBin (pEq false) (dVar 7) (dC (.int 2))) (dRet (dPrim pTup (aCons (dC (.str "op")) (aCons (dVar 3) (aCons (dBin pIx (dC (.str "+-*<=&|^")) (dPrim (cP (pureOf F_law_part) []) (aCons (dVar 0) (aCons (dC (.int 1)) (aCons (dC (.int 8)) aNil))))) (aCons (dVar 4) (aCons (dVar 5) aNil))))))) dNext)
  (dSeq (dIfS (dBin (pEq false) (dVar 7) (dC (.int 3))) (dRet (dPrim pTup (aCons (dC (.str "load")) (aCons (dVar 3) (aCons (dVar 6) aNil))))) dNext)
  (dSeq (dIfS (dBin (pEq false) (dVar 7) (dC (.int 4))) (dRet (dPrim pTup (aCons (dC (.str "store")) (aCons (dVar 6) (aCons (dVar 4) aNil))))) dNext)
  (dSeq (dIfS (dBin (pEq false) (dVar 7) (dC (.int 5))) (dRet (dPrim pTup (aCons (dC (.str "take")) (aCons (dVar 3) (aCons (dVar 6) (aCons (dVar 4) aNil)))))) dNext)
  (dSeq (dIfS (dBin (pEq false) (dVar 7) (dC (.int 6))) (dRet (dPrim pTup (aCons (dC (.str "lay")) (aCons (dVar 6) (aCons (dVar 4) (aCons (dVar 5) aNil)))))) dNext)
  (dSeq (dIfS (dBin (pEq false) (dVar 7) (dC (.int 7))) (dRet (dPrim pTup (aCons (dC (.str "hear")) (aCons (dVar 3) aNil)))) dNext)
  (dSeq (dIfS (dBin pLt (dVar 7) (dC (.int 10))) (dRet (dPrim pTup (aCons (dBin pIx (dPrim pLst (aCons (dC (.str "say")) (aCons (dC (.str "end")) aNil))) (dBin pSub (dVar 7) (dC (.int 8)))) (aCons (dVar 4) aNil)))) dNext)
  (dSeq (dSet 8 (dPrim (cP (pureOf F_law_part) []) (aCons (dVar 0) (aCons (dC (.int 1)) (aCons (dBin pAdd (dVar 2) (dC (.int 1))) aNil)))))
  (dRet (dBin pIx (dPrim pLst (aCons (dPrim pTup (aCons (dC (.str "if")) (aCons (dVar 4) (aCons (dVar 8) aNil)))) (aCons (dPrim pTup (aCons (dC (.str "go")) (aCons (dVar 8) aNil))) aNil))) (dBin pSub (dVar 7) (dC (.int 10)))))))))))))))))))
def F_law_row : PL := runF 3 9 b_law_row
def b_law_line : DS := (dSeq (dSet 1 (dLcM (iSeq (dVar 0)) (gSet 2) (dC (.bl true)) (dPrim pStr (aCons (dVar 2) aNil)) [2]))
  (dSeq (dIfS (dBin (pEq false) (dBin pIx (dVar 0) (dC (.int 0))) (dC (.str "copy"))) (dSet 1 (dPrim pLstM (aCons (dBin pIx (dVar 0) (dC (.int 1))) (aCons (dC (.str "=")) (aCons (dPrim pStr (aCons (dBin pIx (dVar 0) (dC (.int 2))) aNil)) aNil))))) dNext)
  (dSeq (dIfS (dBin (pEq false) (dBin pIx (dVar 0) (dC (.int 0))) (dC (.str "op"))) (dSet 1 (dPrim pLstM (aCons (dBin pIx (dVar 0) (dC (.int 1))) (aCons (dC (.str "=")) (aCons (dPrim pStr (aCons (dBin pIx (dVar 0) (dC (.int 3))) aNil)) (aCons (dBin pIx (dVar 0) (dC (.int 2))) (aCons (dPrim pStr (aCons (dBin pIx (dVar 0) (dC (.int 4))) aNil)) aNil))))))) dNext)
  (dSeq (dIfS (dOr (dBin (pEq false) (dBin pIx (dVar 0) (dC (.int 0))) (dC (.str "if"))) (dBin (pEq false) (dBin pIx (dVar 0) (dC (.int 0))) (dC (.str "go")))) (dSub (dBin pAdd (dC (.str "r")) (dBin pIx (dVar 1) (dUn pNeg (dC (.int 1))))) (dVar 1) (dUn pNeg (dC (.int 1)))) dNext)
  (dRet (dM1 pJoin (dC (.str " ")) (dVar 1)))))))
def F_law_line : PL := runF 1 3 b_law_line
def b_law_program : DS := (dSeq (dSet 2 (dPrim (cP (pureOf F_law_cell) []) (aCons (dVar 0) (aCons (dVar 1) aNil))))
  (dSeq (dSet 3 (dPrim (cP (pureOf F_law_cell) []) (aCons (dVar 0) (aCons (dBin pAdd (dVar 1) (dC (.int 1))) aNil))))
  (dSeq (dSet 4 (dBin pAdd (dC (.int 1)) (dPrim (cP (pureOf F_law_part) []) (aCons (dVar 2) (aCons (dC (.int 0)) (aCons (dC (.int 9)) aNil))))))
  (dSeq (dSet 5 (dPrim pLst (aCons (dPrim (cP (pureOf F_law_part) []) (aCons (dVar 2) (aCons (dC (.int 1)) (aCons (dC (.int 4)) aNil)))) (aCons (dPrim (cP (pureOf F_law_part) []) (aCons (dVar 2) (aCons (dC (.int 2)) (aCons (dC (.int 3)) aNil)))) aNil))))
  (dSeq (dIfS (dBin (pEq false) (dPrim (cP (pureOf F_law_part) []) (aCons (dVar 2) (aCons (dC (.int 3)) (aCons (dC (.int 4)) aNil)))) (dC (.int 1))) (dSet 5 (dPrim pLst (aCons (dC (.int 8)) (aCons (dC (.int 4)) aNil)))) dNext)
  (dSeq (dIfS (dBin (pEq false) (dPrim (cP (pureOf F_law_part) []) (aCons (dVar 2) (aCons (dC (.int 4)) (aCons (dC (.int 4)) aNil)))) (dC (.int 1))) (dSet 4 (dBin pAdd (dC (.int 1)) (dPrim (cP (pureOf F_law_part) []) (aCons (dVar 2) (aCons (dC (.int 5)) (aCons (dC (.int 60)) aNil)))))) dNext)
  (dSeq (dSet 6 (dPrim pLstM aNil))
  (dSeq (dFor (iRange1 (aCons (dBin pIx (dVar 5) (dC (.int 0))) aNil)) (gSet 7) (dSeq (dSet 10 (dPrim (cP (pureOf F_law_cell) []) (aCons (dVar 0) (aCons (dBin pAdd (dBin pAdd (dVar 1) (dC (.int 2))) (dVar 7)) aNil))))
  (dSeq (dSet 11 (dBin pIx (dPrim pLst (aCons (dPrim (cP (pureOf F_law_part) []) (aCons (dVar 10) (aCons (dC (.int 1)) (aCons (dC (.int 12)) aNil)))) (aCons (dBin pMod (dBin pMul (dVar 10) (dC (.int 94906267))) (dBin pPow (dC (.int 2)) (dC (.int 40)))) aNil))) (dPrim (cP (pureOf F_law_part) []) (aCons (dVar 10) (aCons (dC (.int 2)) (aCons (dC (.int 2)) aNil))))))
  (dExpr (dMt pAppend (dVar 6) (aCons (dPrim pTup (aCons (dPrim (cP (pureOf F_law_name) []) (aCons (dVar 3) (aCons (dBin pAdd (dC (.int 10)) (dVar 7)) aNil))) (aCons (dVar 11) (aCons (dBin (pEq false) (dPrim (cP (pureOf F_law_part) []) (aCons (dVar 10) (aCons (dC (.int 0)) (aCons (dC (.int 2)) aNil)))) (dC (.int 1))) aNil)))) aNil))))))
  (dSeq (dSet 8 (dPrim pLstM aNil))
  (dSeq (dFor (iRange1 (aCons (dBin pIx (dVar 5) (dC (.int 1))) aNil)) (gSet 7) (dSeq (dSet 10 (dPrim (cP (pureOf F_law_cell) []) (aCons (dVar 0) (aCons (dBin pAdd (dBin pAdd (dVar 1) (dC (.int 10))) (dVar 7)) aNil))))
  (dExpr (dMt pAppend (dVar 8) (aCons (dPrim pTup (aCons (dPrim (cP (pureOf F_law_name) []) (aCons (dVar 3) (aCons (dBin pAdd (dC (.int 18)) (dVar 7)) aNil))) (aCons (dBin pAdd (dC (.int 1)) (dPrim (cP (pureOf F_law_part) []) (aCons (dVar 10) (aCons (dC (.int 1)) (aCons (dC (.int 8)) aNil))))) (aCons (dBin (pEq false) (dPrim (cP (pureOf F_law_part) []) (aCons (dVar 10) (aCons (dC (.int 2)) (aCons (dC (.int 2)) aNil)))) (dC (.int 1))) aNil)))) aNil)))))
  (dSeq (dSet 9 (dLc (iRange1 (aCons (dVar 4) aNil)) (gSet 7) (dC (.bl true)) (dPrim (cP (pureOf F_law_row) []) (aCons (dPrim (cP (pureOf F_law_cell) []) (aCons (dVar 0) (aCons (dBin pAdd (dBin pAdd (dVar 1) (dC (.int 4))) (dVar 7)) aNil))) (aCons (dVar 3) (aCons (dVar 4) aNil)))) [7]))
  (dRet (dPrim pTup (aCons (dPrim pTuple (aCons (dVar 6) aNil)) (aCons (dPrim pTuple (aCons (dVar 8) aNil)) (aCons (dPrim pTuple (aCons (dVar 9) aNil)) aNil))))))))))))))))
def F_law_program : PL := runF 2 12 b_law_program
def b_law_text : DS := (dSeq (dSet 1 (dLcM (iSeq (dBin pIx (dVar 0) (dC (.int 0)))) (gTupD 3 (gsCons (gSet 4) (gsCons (gSet 8) (gsCons (gSet 6) gsNil)))) (dC (.bl true)) (dBin pAdd (dBin pAdd (dBin pAdd (dBin pAdd (dBin pIx (dPrim pLst (aCons (dC (.str "cell")) (aCons (dC (.str "twin")) aNil))) (dPrim pInt (aCons (dVar 6) aNil))) (dC (.str " "))) (dVar 4)) (dC (.str " "))) (dPrim pStr (aCons (dVar 8) aNil))) [4, 8, 6]))
  (dSeq (dFor (iSeq (dBin pIx (dVar 0) (dC (.int 1)))) (gTupD 3 (gsCons (gSet 4) (gsCons (gSet 5) (gsCons (gSet 6) gsNil)))) (dExpr (dMt pAppend (dVar 1) (aCons (dBin pAdd (dBin pAdd (dBin pAdd (dBin pAdd (dBin pIx (dPrim pLst (aCons (dC (.str "shelf")) (aCons (dC (.str "twins")) aNil))) (dPrim pInt (aCons (dVar 6) aNil))) (dC (.str " "))) (dVar 4)) (dC (.str " "))) (dPrim pStr (aCons (dVar 5) aNil))) aNil))))
  (dSeq (dSet 2 (dLc (iSeq (dBin pIx (dVar 0) (dC (.int 2)))) (gSet 7) (dOr (dBin (pEq false) (dBin pIx (dVar 7) (dC (.int 0))) (dC (.str "if"))) (dBin (pEq false) (dBin pIx (dVar 7) (dC (.int 0))) (dC (.str "go")))) (dBin pIx (dVar 7) (dUn pNeg (dC (.int 1)))) [7]))
  (dSeq (dFor (iRange1 (aCons (dBin pAdd (dPrim pLen (aCons (dBin pIx (dVar 0) (dC (.int 2))) aNil)) (dC (.int 1))) aNil)) (gSet 3) (dSeq (dIfS (dBin (pIn false) (dVar 3) (dVar 2)) (dExpr (dMt pAppend (dVar 1) (aCons (dBin pAdd (dC (.str "at r")) (dPrim pStr (aCons (dVar 3) aNil))) aNil))) dNext)
  (dIfS (dBin pLt (dVar 3) (dPrim pLen (aCons (dBin pIx (dVar 0) (dC (.int 2))) aNil))) (dExpr (dMt pAppend (dVar 1) (aCons (dPrim (cP (pureOf F_law_line) []) (aCons (dBin pIx (dBin pIx (dVar 0) (dC (.int 2))) (dVar 3)) aNil)) aNil))) dNext)))
  (dRet (dM1 pJoin (dC (.str "\n")) (dVar 1)))))))
def F_law_text : PL := runF 1 9 b_law_text
def b_law_alike (bR : DS) : DS := (dSeq (dIfS (dIsi .tuple (dVar 1)) (dSeq (dIfS (dOr (dNot (dIsi .tuple (dVar 0))) (dBin (pEq true) (dPrim pLen (aCons (dVar 0) aNil)) (dPrim pLen (aCons (dVar 1) aNil)))) (dRet (dC (.bl false))) dNext)
  (dRet (dPrim pAll (aCons (dLc (iRange1 (aCons (dPrim pLen (aCons (dVar 1) aNil)) aNil)) (gSet 2) (dC (.bl true)) (dPrim (cS (runF 2 3 bR) []) (aCons (dBin pIx (dVar 0) (dVar 2)) (aCons (dBin pIx (dVar 1) (dVar 2)) aNil))) [2]) aNil)))) dNext)
  (dSeq (dIfS (dIsi .bool (dVar 1)) (dRet (dAnd (dIsi .bool (dVar 0)) (dBin (pEq false) (dVar 0) (dVar 1)))) dNext)
  (dSeq (dIfS (dIsi .int (dVar 1)) (dRet (dAnd (dIsi .int (dVar 0)) (dAnd (dNot (dIsi .bool (dVar 0))) (dBin (pEq false) (dVar 0) (dVar 1))))) dNext)
  (dRet (dAnd (dIsi .str (dVar 0)) (dBin (pEq false) (dVar 0) (dVar 1)))))))
def br_law_alike : Nat → DS
  | 0 => fun _ _ => none
  | n + 1 => b_law_alike (br_law_alike n)
def F_law_alike : PL := runF 2 3 (br_law_alike 5)
def b_law_right : DS := (dSeq (dSet 1 (dPrim (cP (pureOf F_law_text) []) (aCons (dVar 0) aNil)))
  (dSeq (dSet 2 (dPrim (cP (pureOf F_write) []) (aCons (dVar 0) aNil)))
  (dRet (dAnd (dIsi .str (dVar 2)) (dAnd (dBin (pEq false) (dVar 2) (dVar 1)) (dPrim (cP (pureOf F_law_alike) []) (aCons (dPrim (cP (pureOf F_read) []) (aCons (dVar 1) aNil)) (aCons (dVar 0) aNil))))))))
def F_law_right : PL := runF 1 3 b_law_right
def b_law : DS := (dSeq (dSet 1 (dPrim (cP (pureOf F_law_program) []) (aCons (dVar 0) (aCons (dC (.int 0)) aNil))))
  (dSeq (dSet 2 (dPrim (cP (pureOf F_law_program) []) (aCons (dVar 0) (aCons (dC (.int 29)) aNil))))
  (dRet (dAnd (dPrim (cP (pureOf F_law_right) []) (aCons (dVar 1) aNil)) (dAnd (dPrim (cP (pureOf F_law_right) []) (aCons (dVar 2) aNil)) (dPrim (cP (pureOf F_law_right) []) (aCons (dVar 1) aNil)))))))
def F_law : PL := runF 1 3 b_law
/-! ### facts of the head -/
abbrev Fx (K : PySem.W.Frag) (mg : Str → Option Value) : Prop := Facts fa fn ex K mg
section
variable {K : PySem.W.Frag} {mg : Str → Option Value} {P : Program} {w : World} {base : Heap}
theorem Fx.tb (Y : Fx K mg) : TB mg := Y.tb0 ⟨fac, rfl⟩
theorem Fx.tup_SIGNS (Y : Fx K mg) : tupN K "SIGNS" t_SIGNS = true := (Bool.and_eq_true_iff.mp (show ex K = true from Y.e)).1
theorem Fx.at (Y : Fx K mg) : ATOk K AT := atOk_of (Bool.and_eq_true_iff.mp (show ex K = true from Y.e)).2
theorem sc_all_of : FnScope ["word", "signs", "sign"] ["word", "signs"] (defScope s_all_of) := ⟨rfl, rfl, rfl, by decide +kernel, rfl, by decide +kernel, by decide +kernel⟩
theorem ok_all_of_fn {f : Addr} {fd : FuncData} (FD : FunD K d_all_of.name d_all_of.qual d_all_of.params d_all_of.body d_all_of.scope (He.DefD.dvs K d_all_of) (He.DefD.kws K d_all_of) f fd) (Y : Fx K mg) : FnOk P w K mg base CX0 1 f fd ["word", "signs"] (spS K 2 F_all_of) := by
  refine fn_ok FD sc_all_of fun cdv A outer s H E hr => ?_
  exact (sds_cons (sd_for (ps_for PassesOwn.never rfl (Dn.ID.pi (id_seq (ed_var (pv 0)))) (GD.pg (gd_name (pg_name (i := 2) sc_all_of.nd rfl (by first | exact .inl rfl | exact .inr rfl)))) (SDs.ps (sds_one (sd_if (td_notin hr (ed_var (pv 2)) (ed_var (pv 1)) rfl) (sds_one (sd_ret ed_bl)) sds_nil)))))
  (sds_one (sd_ret ed_bl)))
theorem ok_all_of (Y : Fx K mg) : FnC P w K mg base "all_of" 1 ["word", "signs"] [] F_all_of := by
  obtain ⟨fd, FD⟩ := Y.c.def_ 0 (d := d_all_of) rfl
  exact FnC.of FD (Y.glo 0) (ok_all_of_fn FD Y) fun _ _ _ _ _ _ us hl => match us, hl with | [_, _], _ => rfl
theorem sc_is_name : FnScope ["text"] ["text"] (defScope s_is_name) := ⟨rfl, rfl, rfl, by decide +kernel, rfl, by decide +kernel, by decide +kernel⟩
theorem ok_is_name_fn {f : Addr} {fd : FuncData} (FD : FunD K d_is_name.name d_is_name.qual d_is_name.params d_is_name.body d_is_name.scope (He.DefD.dvs K d_is_name) (He.DefD.kws K d_is_name) f fd) (Y : Fx K mg) : FnOk P w K mg base CX0 2 f fd ["text"] (spS K 1 F_is_name) := by
  refine fn_ok FD sc_is_name fun cdv A outer s H E hr => ?_
  exact (sds_one (sd_ret (ed_and (ed_chain2 op_le ok_cmp op_le ok_cmp ed_int (ed_prim (fun ha => pe_callB (x := "len") call_lenAll (by rfl) Y.tb.len boot_len ha) ok_len (ad_cons (ed_var (pv 0)) ad_nil)) ed_int) (ed_one (ed_callP (ok_all_of Y) rfl hr (by decide) (by rfl) dd0 (ad_cons (ed_var (pv 0)) (ad_cons (ed_kstr (Y.str 30)) ad_nil)))))))
theorem ok_is_name (Y : Fx K mg) : FnC P w K mg base "is_name" 2 ["text"] [] F_is_name := by
  obtain ⟨fd, FD⟩ := Y.c.def_ 1 (d := d_is_name) rfl
  exact FnC.of FD (Y.glo 1) (ok_is_name_fn FD Y) fun _ _ _ _ _ _ us hl => match us, hl with | [_], _ => rfl
theorem sc_is_label : FnScope ["text"] ["text"] (defScope s_is_label) := ⟨rfl, rfl, rfl, by decide +kernel, rfl, by decide +kernel, by decide +kernel⟩
theorem ok_is_label_fn {f : Addr} {fd : FuncData} (FD : FunD K d_is_label.name d_is_label.qual d_is_label.params d_is_label.body d_is_label.scope (He.DefD.dvs K d_is_label) (He.DefD.kws K d_is_label) f fd) (Y : Fx K mg) : FnOk P w K mg base CX0 2 f fd ["text"] (spS K 1 F_is_label) := by
  refine fn_ok FD sc_is_label fun cdv A outer s H E hr => ?_
  exact (sds_one (sd_ret (ed_and (ed_chain2 op_le ok_cmp op_le ok_cmp ed_int (ed_prim (fun ha => pe_callB (x := "len") call_lenAll (by rfl) Y.tb.len boot_len ha) ok_len (ad_cons (ed_var (pv 0)) ad_nil)) ed_int) (ed_one (ed_callP (ok_all_of Y) rfl hr (by decide) (by rfl) dd0 (ad_cons (ed_var (pv 0)) (ad_cons (ed_add (ed_kstr (Y.str 30)) (ed_kstr (Y.str 31))) ad_nil)))))))
theorem ok_is_label (Y : Fx K mg) : FnC P w K mg base "is_label" 2 ["text"] [] F_is_label := by
  obtain ⟨fd, FD⟩ := Y.c.def_ 2 (d := d_is_label) rfl
  exact FnC.of FD (Y.glo 2) (ok_is_label_fn FD Y) fun _ _ _ _ _ _ us hl => match us, hl with | [_], _ => rfl
theorem sc_value_of : FnScope ["word"] ["word"] (defScope s_value_of) := ⟨rfl, rfl, rfl, by decide +kernel, rfl, by decide +kernel, by decide +kernel⟩
theorem ok_value_of_fn {f : Addr} {fd : FuncData} (FD : FunD K d_value_of.name d_value_of.qual d_value_of.params d_value_of.body d_value_of.scope (He.DefD.dvs K d_value_of) (He.DefD.kws K d_value_of) f fd) (Y : Fx K mg) : FnOk P w K mg base CX0 2 f fd ["word"] (spS K 1 F_value_of) := by
  refine fn_ok FD sc_value_of fun cdv A outer s H E hr => ?_
  exact (sds_cons (sd_if (TDW.td (tw_or (td_not (td_chain op_le ok_cmp op_le ok_cmp ed_int (ed_prim (fun ha => pe_callB (x := "len") call_lenAll (by rfl) Y.tb.len boot_len ha) ok_len (ad_cons (ed_var (pv 0)) ad_nil)) ed_int)) (tw_or1 (td_not (td_val (ed_callP (ok_all_of Y) rfl hr (by decide) (by rfl) dd0 (ad_cons (ed_var (pv 0)) (ad_cons (ed_kstr (Y.str 31)) ad_nil)))))))) (sds_one (sd_ret ed_non)) sds_nil)
  (sds_cons (sd_if (TDW.td (tw_or (TDW.td (tw_and (td_eq hr (ed_ix hr (ed_var (pv 0)) ed_int (fun _ _ => rfl)) ed_str) (tw_and1 (td_gt (ed_prim (fun ha => pe_callB (x := "len") call_lenAll (by rfl) Y.tb.len boot_len ha) ok_len (ad_cons (ed_var (pv 0)) ad_nil)) ed_int)))) (tw_or1 (td_ge (ed_prim (fun ha => pe_callTy (x := "int") call_intAll (by rfl) Y.tb.int boot_int ha) ok_int (ad_cons (ed_var (pv 0)) ad_nil)) (ed_kint (X := _) (Y.int 29)))))) (sds_one (sd_ret ed_non)) sds_nil)
  (sds_one (sd_ret (ed_prim (fun ha => pe_callTy (x := "int") call_intAll (by rfl) Y.tb.int boot_int ha) ok_int (ad_cons (ed_var (pv 0)) ad_nil))))))
theorem ok_value_of (Y : Fx K mg) : FnC P w K mg base "value_of" 2 ["word"] [] F_value_of := by
  obtain ⟨fd, FD⟩ := Y.c.def_ 3 (d := d_value_of) rfl
  exact FnC.of FD (Y.glo 3) (ok_value_of_fn FD Y) fun _ _ _ _ _ _ us hl => match us, hl with | [_], _ => rfl
theorem sc_atom_of : FnScope ["word"] ["word"] (defScope s_atom_of) := ⟨rfl, rfl, rfl, by decide +kernel, rfl, by decide +kernel, by decide +kernel⟩
theorem ok_atom_of_fn {f : Addr} {fd : FuncData} (FD : FunD K d_atom_of.name d_atom_of.qual d_atom_of.params d_atom_of.body d_atom_of.scope (He.DefD.dvs K d_atom_of) (He.DefD.kws K d_atom_of) f fd) (Y : Fx K mg) : FnOk P w K mg base CX0 3 f fd ["word"] (spS K 1 F_atom_of) := by
  refine fn_ok FD sc_atom_of fun cdv A outer s H E hr => ?_
  exact (sds_cons (sd_if (td_val (ed_callP (ok_is_name Y) rfl hr (by decide) (by rfl) dd0 (ad_cons (ed_var (pv 0)) ad_nil))) (sds_one (sd_ret (ed_var (pv 0)))) sds_nil)
  (sds_one (sd_ret (ed_callP (ok_value_of Y) rfl hr (by decide) (by rfl) dd0 (ad_cons (ed_var (pv 0)) ad_nil)))))
theorem ok_atom_of (Y : Fx K mg) : FnC P w K mg base "atom_of" 3 ["word"] [] F_atom_of := by
  obtain ⟨fd, FD⟩ := Y.c.def_ 4 (d := d_atom_of) rfl
  exact FnC.of FD (Y.glo 4) (ok_atom_of_fn FD Y) fun _ _ _ _ _ _ us hl => match us, hl with | [_], _ => rfl
theorem sc_given_of : FnScope ["words"] ["words"] (defScope s_given_of) := ⟨rfl, rfl, rfl, by decide +kernel, rfl, by decide +kernel, by decide +kernel⟩
theorem ok_given_of_fn {f : Addr} {fd : FuncData} (FD : FunD K d_given_of.name d_given_of.qual d_given_of.params d_given_of.body d_given_of.scope (He.DefD.dvs K d_given_of) (He.DefD.kws K d_given_of) f fd) (Y : Fx K mg) : FnOk P w K mg base CX0 4 f fd ["words"] (spS K 1 F_given_of) := by
  refine fn_ok FD sc_given_of fun cdv A outer s H E hr => ?_
  exact (sds_cons (sd_if (TDW.td (tw_or (td_not (td_val (ed_callP (ok_is_name Y) rfl hr (by decide) (by rfl) dd0 (ad_cons (ed_ix hr (ed_var (pv 0)) ed_int (fun _ _ => rfl)) ad_nil)))) (tw_or1 (td_is (ed_callP (ok_atom_of Y) rfl hr (by decide) (by rfl) dd0 (ad_cons (ed_ix hr (ed_var (pv 0)) ed_int (fun _ _ => rfl)) ad_nil)) ed_non)))) (sds_one (sd_ret ed_non)) sds_nil)
  (sds_cons (sd_if (td_eq hr (ed_prim (fun ha => pe_callB (x := "len") call_lenAll (by rfl) Y.tb.len boot_len ha) ok_len (ad_cons (ed_var (pv 0)) ad_nil)) ed_int) (sds_one (sd_ret (ed_tup (ad_cons ed_str (ad_cons (ed_ix hr (ed_var (pv 0)) ed_int (fun _ _ => rfl)) (ad_cons (ed_callP (ok_atom_of Y) rfl hr (by decide) (by rfl) dd0 (ad_cons (ed_ix hr (ed_var (pv 0)) ed_int (fun _ _ => rfl)) ad_nil)) ad_nil)))))) sds_nil)
  (sds_cons (sd_if (TDW.td (tw_or (td_ne hr (ed_prim (fun ha => pe_callB (x := "len") call_lenAll (by rfl) Y.tb.len boot_len ha) ok_len (ad_cons (ed_var (pv 0)) ad_nil)) ed_int) (tw_or (td_notin hr (ed_ix hr (ed_var (pv 0)) ed_int (fun _ _ => rfl)) (ed_ktup (vs := t_SIGNS) (Y.glo 32) (Y.tup_SIGNS)) rfl) (tw_or1 (td_is (ed_callP (ok_atom_of Y) rfl hr (by decide) (by rfl) dd0 (ad_cons (ed_ix hr (ed_var (pv 0)) ed_int (fun _ _ => rfl)) ad_nil)) ed_non))))) (sds_one (sd_ret ed_non)) sds_nil)
  (sds_one (sd_ret (ed_tup (ad_cons ed_str (ad_cons (ed_ix hr (ed_var (pv 0)) ed_int (fun _ _ => rfl)) (ad_cons (ed_ix hr (ed_var (pv 0)) ed_int (fun _ _ => rfl)) (ad_cons (ed_callP (ok_atom_of Y) rfl hr (by decide) (by rfl) dd0 (ad_cons (ed_ix hr (ed_var (pv 0)) ed_int (fun _ _ => rfl)) ad_nil)) (ad_cons (ed_callP (ok_atom_of Y) rfl hr (by decide) (by rfl) dd0 (ad_cons (ed_ix hr (ed_var (pv 0)) ed_int (fun _ _ => rfl)) ad_nil)) ad_nil)))))))))))
theorem ok_given_of (Y : Fx K mg) : FnC P w K mg base "given_of" 4 ["words"] [] F_given_of := by
  obtain ⟨fd, FD⟩ := Y.c.def_ 5 (d := d_given_of) rfl
  exact FnC.of FD (Y.glo 5) (ok_given_of_fn FD Y) fun _ _ _ _ _ _ us hl => match us, hl with | [_], _ => rfl
theorem sc_forms_of : FnScope ["kind"] ["kind"] (defScope s_forms_of) := ⟨rfl, rfl, rfl, by decide +kernel, rfl, by decide +kernel, by decide +kernel⟩
theorem ok_forms_of_fn {f : Addr} {fd : FuncData} (FD : FunD K d_forms_of.name d_forms_of.qual d_forms_of.params d_forms_of.body d_forms_of.scope (He.DefD.dvs K d_forms_of) (He.DefD.kws K d_forms_of) f fd) (Y : Fx K mg) : FnOk P w K mg base CX0 1 f fd ["kind"] (spS K 1 F_forms_of) := by
  refine fn_ok FD sc_forms_of fun cdv A outer s H E hr => ?_
  exact (sds_cons (sd_if (td_eq hr (ed_var (pv 0)) ed_str) (sds_one (sd_ret ed_str)) sds_nil)
  (sds_cons (sd_if (td_eq hr (ed_var (pv 0)) ed_str) (sds_one (sd_ret ed_str)) sds_nil)
  (sds_cons (sd_if (td_eq hr (ed_var (pv 0)) ed_str) (sds_one (sd_ret ed_str)) sds_nil)
  (sds_cons (sd_if (td_eq hr (ed_var (pv 0)) ed_str) (sds_one (sd_ret ed_str)) sds_nil)
  (sds_cons (sd_if (td_eq hr (ed_var (pv 0)) ed_str) (sds_one (sd_ret ed_str)) sds_nil)
  (sds_cons (sd_if (TDW.td (tw_or (td_eq hr (ed_var (pv 0)) ed_str) (tw_or1 (td_eq hr (ed_var (pv 0)) ed_str)))) (sds_one (sd_ret ed_str)) sds_nil)
  (sds_cons (sd_if (td_eq hr (ed_var (pv 0)) ed_str) (sds_one (sd_ret ed_str)) sds_nil)
  (sds_cons (sd_if (td_eq hr (ed_var (pv 0)) ed_str) (sds_one (sd_ret ed_str)) sds_nil)
  (sds_one (sd_ret ed_str))))))))))
theorem ok_forms_of (Y : Fx K mg) : FnC P w K mg base "forms_of" 1 ["kind"] [] F_forms_of := by
  obtain ⟨fd, FD⟩ := Y.c.def_ 6 (d := d_forms_of) rfl
  exact FnC.of FD (Y.glo 6) (ok_forms_of_fn FD Y) fun _ _ _ _ _ _ us hl => match us, hl with | [_], _ => rfl
theorem sc_part_of : FnScope ["word", "form"] ["word", "form"] (defScope s_part_of) := ⟨rfl, rfl, rfl, by decide +kernel, rfl, by decide +kernel, by decide +kernel⟩
theorem ok_part_of_fn {f : Addr} {fd : FuncData} (FD : FunD K d_part_of.name d_part_of.qual d_part_of.params d_part_of.body d_part_of.scope (He.DefD.dvs K d_part_of) (He.DefD.kws K d_part_of) f fd) (Y : Fx K mg) : FnOk P w K mg base CX0 4 f fd ["word", "form"] (spS K 2 F_part_of) := by
  refine fn_ok FD sc_part_of fun cdv A outer s H E hr => ?_
  exact (sds_cons (sd_if (td_eq hr (ed_var (pv 1)) ed_str) (sds_one (sd_ret (ed_callP (ok_atom_of Y) rfl hr (by decide) (by rfl) dd0 (ad_cons (ed_var (pv 0)) ad_nil)))) sds_nil)
  (sds_cons (sd_if (TDW.td (tw_or (TDW.td (tw_and (td_eq hr (ed_var (pv 1)) ed_str) (tw_and1 (td_val (ed_callP (ok_is_name Y) rfl hr (by decide) (by rfl) dd0 (ad_cons (ed_var (pv 0)) ad_nil)))))) (tw_or1 (TDW.td (tw_and (td_eq hr (ed_var (pv 1)) ed_str) (tw_and1 (td_val (ed_callP (ok_is_label Y) rfl hr (by decide) (by rfl) dd0 (ad_cons (ed_var (pv 0)) ad_nil))))))))) (sds_one (sd_ret (ed_var (pv 0)))) sds_nil)
  (sds_one (sd_ret ed_non))))
theorem ok_part_of (Y : Fx K mg) : FnC P w K mg base "part_of" 4 ["word", "form"] [] F_part_of := by
  obtain ⟨fd, FD⟩ := Y.c.def_ 7 (d := d_part_of) rfl
  exact FnC.of FD (Y.glo 7) (ok_part_of_fn FD Y) fun _ _ _ _ _ _ us hl => match us, hl with | [_, _], _ => rfl
theorem sc_row_of : FnScope ["words", "forms", "parts", "word", "form"] ["words"] (defScope s_row_of) := ⟨rfl, rfl, rfl, by decide +kernel, rfl, by decide +kernel, by decide +kernel⟩
theorem ok_row_of_fn {f : Addr} {fd : FuncData} (FD : FunD K d_row_of.name d_row_of.qual d_row_of.params d_row_of.body d_row_of.scope (He.DefD.dvs K d_row_of) (He.DefD.kws K d_row_of) f fd) (Y : Fx K mg) : FnOk P w K mg base CX0 5 f fd ["words"] (spS K 1 F_row_of) := by
  refine fn_ok FD sc_row_of fun cdv A outer s H E hr => ?_
  exact (sds_cons (sd_if (TDW.td (tw_and (td_gt (ed_prim (fun ha => pe_callB (x := "len") call_lenAll (by rfl) Y.tb.len boot_len ha) ok_len (ad_cons (ed_var (pv 0)) ad_nil)) ed_int) (tw_and1 (td_eq hr (ed_ix hr (ed_var (pv 0)) ed_int (fun _ _ => rfl)) ed_str)))) (sds_one (sd_ret (ed_callP (ok_given_of Y) rfl hr (by decide) (by rfl) dd0 (ad_cons (ed_var (pv 0)) ad_nil)))) sds_nil)
  (sds_cons (sd_set (ps_set (i := 1) sc_row_of.nd rfl (by first | exact .inl rfl | exact .inr rfl) (ED.pe (ed_callP (ok_forms_of Y) rfl hr (by decide) (by rfl) dd0 (ad_cons (ed_ix hr (ed_var (pv 0)) ed_int (fun _ _ => rfl)) ad_nil)))))
  (sds_cons (sd_if (TDW.td (tw_or (td_eq hr (ed_var (pv 1)) ed_str) (tw_or1 (td_ne hr (ed_prim (fun ha => pe_callB (x := "len") call_lenAll (by rfl) Y.tb.len boot_len ha) ok_len (ad_cons (ed_var (pv 0)) ad_nil)) (ed_add (ed_prim (fun ha => pe_callB (x := "len") call_lenAll (by rfl) Y.tb.len boot_len ha) ok_len (ad_cons (ed_var (pv 1)) ad_nil)) ed_int))))) (sds_one (sd_ret ed_non)) sds_nil)
  (sds_cons (sd_setLc (i := 2) (ps_setLc (own := [("word", 3), ("form", 4)]) rfl sc_row_of.nd rfl rfl rfl (Dn.ID.pi (id_zipLS (ad_cons (ed_sl (ed_var (pv 0)) (od_some ed_int) od_none) (ad_cons (ed_var (pv 1)) ad_nil)) (fun ha => pi_zipS (by rfl) Y.tb.zip ha))) (blkOk_by (by rfl)) (fun _ _ _ _ _ => (pg_tup rfl (pgs_cons (pg_name (i := 3) sc_row_of.nd rfl (by first | exact .inl rfl | exact .inr rfl)) (pgs_cons (pg_name (i := 4) sc_row_of.nd rfl (by first | exact .inl rfl | exact .inr rfl)) pgs_nil)))) (fun _ _ _ _ _ => pts_nil) (fun _ _ _ _ _ => (ED.pe (ed_callP (ok_part_of Y) rfl hr (by decide) (by rfl) dd0 (ad_cons (ed_var (pv 3)) (ad_cons (ed_var (pv 4)) ad_nil)))))) (gw_tup (gws_cons (gw_name (by decide)) (gws_cons (gw_name (by decide)) gws_nil))) yes_of)
  (sds_cons (sd_if (td_in hr ed_non (ed_var (pv 2)) rfl) (sds_one (sd_ret ed_non)) sds_nil)
  (sds_one (sd_ret (ed_add (ed_tup (ad_cons (ed_ix hr (ed_var (pv 0)) ed_int (fun _ _ => rfl)) ad_nil)) (ed_prim (fun ha => pe_callTy (x := "tuple") call_tupAll (by rfl) Y.tb.tuple boot_tuple ha) ok_tuple (ad_cons (ed_var (pv 2)) ad_nil))))))))))
theorem ok_row_of (Y : Fx K mg) : FnC P w K mg base "row_of" 5 ["words"] [] F_row_of := by
  obtain ⟨fd, FD⟩ := Y.c.def_ 8 (d := d_row_of) rfl
  exact FnC.of FD (Y.glo 8) (ok_row_of_fn FD Y) fun _ _ _ _ _ _ us hl => match us, hl with | [_], _ => rfl
theorem sc_told_of : FnScope ["words"] ["words"] (defScope s_told_of) := ⟨rfl, rfl, rfl, by decide +kernel, rfl, by decide +kernel, by decide +kernel⟩
theorem ok_told_of_fn {f : Addr} {fd : FuncData} (FD : FunD K d_told_of.name d_told_of.qual d_told_of.params d_told_of.body d_told_of.scope (He.DefD.dvs K d_told_of) (He.DefD.kws K d_told_of) f fd) (Y : Fx K mg) : FnOk P w K mg base CX0 3 f fd ["words"] (spS K 1 F_told_of) := by
  refine fn_ok FD sc_told_of fun cdv A outer s H E hr => ?_
  exact (sds_cons (sd_if (TDW.td (tw_or (td_ne hr (ed_prim (fun ha => pe_callB (x := "len") call_lenAll (by rfl) Y.tb.len boot_len ha) ok_len (ad_cons (ed_var (pv 0)) ad_nil)) ed_int) (tw_or (td_not (td_val (ed_callP (ok_is_name Y) rfl hr (by decide) (by rfl) dd0 (ad_cons (ed_ix hr (ed_var (pv 0)) ed_int (fun _ _ => rfl)) ad_nil)))) (tw_or1 (td_is (ed_callP (ok_value_of Y) rfl hr (by decide) (by rfl) dd0 (ad_cons (ed_ix hr (ed_var (pv 0)) ed_int (fun _ _ => rfl)) ad_nil)) ed_non))))) (sds_one (sd_ret ed_non)) sds_nil)
  (sds_cons (sd_if (TDW.td (tw_and (td_in hr (ed_ix hr (ed_var (pv 0)) ed_int (fun _ _ => rfl)) (ed_tup (ad_cons ed_str (ad_cons ed_str ad_nil))) rfl) (tw_and1 (td_not (td_chain op_le ok_cmp op_le ok_cmp ed_int (ed_callP (ok_value_of Y) rfl hr (by decide) (by rfl) dd0 (ad_cons (ed_ix hr (ed_var (pv 0)) ed_int (fun _ _ => rfl)) ad_nil)) ed_int))))) (sds_one (sd_ret ed_non)) sds_nil)
  (sds_one (sd_ret (ed_tup (ad_cons (ed_ix hr (ed_var (pv 0)) ed_int (fun _ _ => rfl)) (ad_cons (ed_callP (ok_value_of Y) rfl hr (by decide) (by rfl) dd0 (ad_cons (ed_ix hr (ed_var (pv 0)) ed_int (fun _ _ => rfl)) ad_nil)) (ad_cons (ed_in hr (ed_ix hr (ed_var (pv 0)) ed_int (fun _ _ => rfl)) (ed_tup (ad_cons ed_str (ad_cons ed_str ad_nil))) rfl) ad_nil))))))))
theorem ok_told_of (Y : Fx K mg) : FnC P w K mg base "told_of" 3 ["words"] [] F_told_of := by
  obtain ⟨fd, FD⟩ := Y.c.def_ 9 (d := d_told_of) rfl
  exact FnC.of FD (Y.glo 9) (ok_told_of_fn FD Y) fun _ _ _ _ _ _ us hl => match us, hl with | [_], _ => rfl
theorem sc_item_of : FnScope ["words", "begun", "told", "row"] ["words", "begun"] (defScope s_item_of) := ⟨rfl, rfl, rfl, by decide +kernel, rfl, by decide +kernel, by decide +kernel⟩
theorem ok_item_of_fn {f : Addr} {fd : FuncData} (FD : FunD K d_item_of.name d_item_of.qual d_item_of.params d_item_of.body d_item_of.scope (He.DefD.dvs K d_item_of) (He.DefD.kws K d_item_of) f fd) (Y : Fx K mg) : FnOk P w K mg base CX0 6 f fd ["words", "begun"] (spS K 2 F_item_of) := by
  refine fn_ok FD sc_item_of fun cdv A outer s H E hr => ?_
  exact (sds_cons (sd_if (TDW.td (tw_or (TDW.td (tw_and (td_gt (ed_prim (fun ha => pe_callB (x := "len") call_lenAll (by rfl) Y.tb.len boot_len ha) ok_len (ad_cons (ed_var (pv 0)) ad_nil)) ed_int) (tw_and1 (td_eq hr (ed_ix hr (ed_var (pv 0)) ed_int (fun _ _ => rfl)) ed_str)))) (tw_or1 (td_notin hr (ed_ix hr (ed_var (pv 0)) ed_int (fun _ _ => rfl)) (ed_tup (ad_cons ed_str (ad_cons ed_str (ad_cons ed_str (ad_cons ed_str (ad_cons ed_str ad_nil)))))) rfl)))) (sds_cons (sd_set (ps_set (i := 3) sc_item_of.nd rfl (by first | exact .inl rfl | exact .inr rfl) (ED.pe (ed_callP (ok_row_of Y) rfl hr (by decide) (by rfl) dd0 (ad_cons (ed_var (pv 0)) ad_nil)))))
  (sds_cons (sd_if (td_is (ed_var (pv 3)) ed_non) (sds_one (sd_ret ed_non)) sds_nil)
  (sds_one (sd_ret (ed_tup (ad_cons ed_str (ad_cons (ed_var (pv 3)) ad_nil))))))) sds_nil)
  (sds_cons (sd_if (td_eq hr (ed_ix hr (ed_var (pv 0)) ed_int (fun _ _ => rfl)) ed_str) (sds_cons (sd_if (TDW.td (tw_or (td_ne hr (ed_prim (fun ha => pe_callB (x := "len") call_lenAll (by rfl) Y.tb.len boot_len ha) ok_len (ad_cons (ed_var (pv 0)) ad_nil)) ed_int) (tw_or1 (td_not (td_val (ed_callP (ok_is_label Y) rfl hr (by decide) (by rfl) dd0 (ad_cons (ed_ix hr (ed_var (pv 0)) ed_int (fun _ _ => rfl)) ad_nil))))))) (sds_one (sd_ret ed_non)) sds_nil)
  (sds_one (sd_ret (ed_tup (ad_cons ed_str (ad_cons (ed_ix hr (ed_var (pv 0)) ed_int (fun _ _ => rfl)) ad_nil)))))) sds_nil)
  (sds_cons (sd_set (ps_set (i := 2) sc_item_of.nd rfl (by first | exact .inl rfl | exact .inr rfl) (ED.pe (ed_callP (ok_told_of Y) rfl hr (by decide) (by rfl) dd0 (ad_cons (ed_var (pv 0)) ad_nil)))))
  (sds_cons (sd_if (TDW.td (tw_or (td_is (ed_var (pv 2)) ed_non) (tw_or1 (td_val (ed_var (pv 1)))))) (sds_one (sd_ret ed_non)) sds_nil)
  (sds_cons (sd_if (td_in hr (ed_ix hr (ed_var (pv 0)) ed_int (fun _ _ => rfl)) (ed_tup (ad_cons ed_str (ad_cons ed_str ad_nil))) rfl) (sds_one (sd_ret (ed_tup (ad_cons ed_str (ad_cons (ed_var (pv 2)) ad_nil))))) sds_nil)
  (sds_one (sd_ret (ed_tup (ad_cons ed_str (ad_cons (ed_var (pv 2)) ad_nil))))))))))
theorem ok_item_of (Y : Fx K mg) : FnC P w K mg base "item_of" 6 ["words", "begun"] [] F_item_of := by
  obtain ⟨fd, FD⟩ := Y.c.def_ 10 (d := d_item_of) rfl
  exact FnC.of FD (Y.glo 10) (ok_item_of_fn FD Y) fun _ _ _ _ _ _ us hl => match us, hl with | [_, _], _ => rfl
theorem sc_items_of : FnScope ["text", "found", "begun", "at", "line", "item"] ["text"] (defScope s_items_of) := ⟨rfl, rfl, rfl, by decide +kernel, rfl, by decide +kernel, by decide +kernel⟩
theorem ok_items_of_fn {f : Addr} {fd : FuncData} (FD : FunD K d_items_of.name d_items_of.qual d_items_of.params d_items_of.body d_items_of.scope (He.DefD.dvs K d_items_of) (He.DefD.kws K d_items_of) f fd) (Y : Fx K mg) : FnOk P w K mg base CX0 7 f fd ["text"] (spS K 1 F_items_of) := by
  refine fn_ok FD sc_items_of fun cdv A outer s H E hr => ?_
  exact (sds_cons (sd_set (ps_set (i := 1) sc_items_of.nd rfl (by first | exact .inl rfl | exact .inr rfl) (ED.pe (ed_lstM ad_nil))))
  (sds_cons (sd_set (ps_set (i := 2) sc_items_of.nd rfl (by first | exact .inl rfl | exact .inr rfl) (ED.pe ed_bl)))
  (sds_cons (sd_for (ps_for PassesOwn.never rfl (Dn.ID.pi (id_enum2 (ad_cons (ed_m1 ok_split (ed_var (pv 0)) ed_str (fun ho hb => pe_split ho hb)) ad_nil) (fun ha => pi_enum (by rfl) Y.tb.enumerate ha) (fun ha => pi_enumT (by rfl) Y.tb.enumerate ha))) (GD.pg (gd_t rfl (gds_c (gd_name (pg_name (i := 3) sc_items_of.nd rfl (by first | exact .inl rfl | exact .inr rfl))) (gds_c (gd_name (pg_name (i := 4) sc_items_of.nd rfl (by first | exact .inl rfl | exact .inr rfl))) gds_nil)))) (SDs.ps (sds_cons (sd_set (ps_set (i := 5) sc_items_of.nd rfl (by first | exact .inl rfl | exact .inr rfl) (ED.pe (ed_callP (ok_item_of Y) rfl hr (by decide) (by rfl) dd0 (ad_cons (ed_m1 ok_split (ed_var (pv 4)) ed_str (fun ho hb => pe_split ho hb)) (ad_cons (ed_var (pv 2)) ad_nil))))))
  (sds_cons (sd_if (td_is (ed_var (pv 5)) ed_non) (sds_one sd_never) sds_nil)
  (sds_cons (sd_set (ps_set (i := 2) sc_items_of.nd rfl (by first | exact .inl rfl | exact .inr rfl) (ED.pe (ed_or (ed_var (pv 2)) (ed_one (ed_in hr (ed_ix hr (ed_var (pv 5)) ed_int (fun _ _ => rfl)) (ed_tup (ad_cons ed_str (ad_cons ed_str ad_nil))) rfl))))))
  (sds_one (sd_expr (ed_mt ok_append (ed_var (pv 1)) (ad_cons (ed_var (pv 5)) ad_nil) (fun ho ha => pe_bm PySem.F.plainAttrs_list PySem.F.slot_list_append PySem.F.type_list_append mt_append ho ha))))))))))
  (sds_one (sd_ret (ed_var (pv 1)))))))
theorem ok_items_of (Y : Fx K mg) : FnC P w K mg base "items_of" 7 ["text"] [] F_items_of := by
  obtain ⟨fd, FD⟩ := Y.c.def_ 11 (d := d_items_of) rfl
  exact FnC.of FD (Y.glo 11) (ok_items_of_fn FD Y) fun _ _ _ _ _ _ us hl => match us, hl with | [_], _ => rfl
theorem sc_need_once : FnScope ["items", "names", "labels", "sort", "told"] ["items"] (defScope s_need_once) := ⟨rfl, rfl, rfl, by decide +kernel, rfl, by decide +kernel, by decide +kernel⟩
theorem ok_need_once_fn {f : Addr} {fd : FuncData} (FD : FunD K d_need_once.name d_need_once.qual d_need_once.params d_need_once.body d_need_once.scope (He.DefD.dvs K d_need_once) (He.DefD.kws K d_need_once) f fd) (Y : Fx K mg) : FnOk P w K mg base CX0 1 f fd ["items"] (spS K 1 F_need_once) := by
  refine fn_ok FD sc_need_once fun cdv A outer s H E hr => ?_
  exact (sds_cons (sd_set (ps_set (i := 1) sc_need_once.nd rfl (by first | exact .inl rfl | exact .inr rfl) (ED.pe (ed_dnewK pe_dnewK))))
  (sds_cons (sd_set (ps_set (i := 2) sc_need_once.nd rfl (by first | exact .inl rfl | exact .inr rfl) (ED.pe (ed_dnewK pe_dnewK))))
  (sds_one (sd_for (ps_for PassesOwn.never rfl (Dn.ID.pi (id_seq (ed_var (pv 0)))) (GD.pg (gd_t rfl (gds_c (gd_name (pg_name (i := 3) sc_need_once.nd rfl (by first | exact .inl rfl | exact .inr rfl))) (gds_c (gd_name (pg_name (i := 4) sc_need_once.nd rfl (by first | exact .inl rfl | exact .inr rfl))) gds_nil)))) (SDs.ps (sds_one (sd_if (td_eq hr (ed_var (pv 3)) ed_str) (sds_cons (sd_if (td_in hr (ed_var (pv 4)) (ed_var (pv 2)) rfl) (sds_one sd_never) sds_nil)
  (sds_one (sd_sub (ps_asg (ED.pe ed_bl) (pg_sub (ED.pe (ed_var (pv 2))) (ED.pe (ed_var (pv 4))) (PSet.or set_list (set_dict (hu1 hr)))))))) (sds_one (sd_if (td_ne hr (ed_var (pv 3)) ed_str) (sds_cons (sd_if (td_in hr (ed_ix hr (ed_var (pv 4)) ed_int (fun _ _ => rfl)) (ed_var (pv 1)) rfl) (sds_one sd_never) sds_nil)
  (sds_one (sd_sub (ps_asg (ED.pe ed_bl) (pg_sub (ED.pe (ed_var (pv 1))) (ED.pe (ed_ix hr (ed_var (pv 4)) ed_int (fun _ _ => rfl))) (PSet.or set_list (set_dict (hu1 hr)))))))) sds_nil))))))))))
theorem ok_need_once (Y : Fx K mg) : FnC P w K mg base "need_once" 1 ["items"] [] F_need_once := by
  obtain ⟨fd, FD⟩ := Y.c.def_ 12 (d := d_need_once) rfl
  exact FnC.of FD (Y.glo 12) (ok_need_once_fn FD Y) fun _ _ _ _ _ _ us hl => match us, hl with | [_], _ => rfl
theorem sc_seats_of : FnScope ["items", "seats", "count", "sort", "told"] ["items"] (defScope s_seats_of) := ⟨rfl, rfl, rfl, by decide +kernel, rfl, by decide +kernel, by decide +kernel⟩
theorem ok_seats_of_fn {f : Addr} {fd : FuncData} (FD : FunD K d_seats_of.name d_seats_of.qual d_seats_of.params d_seats_of.body d_seats_of.scope (He.DefD.dvs K d_seats_of) (He.DefD.kws K d_seats_of) f fd) (Y : Fx K mg) : FnOk P w K mg base CX0 1 f fd ["items"] (spS K 1 F_seats_of) := by
  refine fn_ok FD sc_seats_of fun cdv A outer s H E hr => ?_
  exact (sds_cons (sd_set (ps_set (i := 1) sc_seats_of.nd rfl (by first | exact .inl rfl | exact .inr rfl) (ED.pe (ed_dnewK pe_dnewK))))
  (sds_cons (sd_set (ps_set (i := 2) sc_seats_of.nd rfl (by first | exact .inl rfl | exact .inr rfl) (ED.pe ed_int)))
  (sds_cons (sd_for (ps_for PassesOwn.never rfl (Dn.ID.pi (id_seq (ed_var (pv 0)))) (GD.pg (gd_t rfl (gds_c (gd_name (pg_name (i := 3) sc_seats_of.nd rfl (by first | exact .inl rfl | exact .inr rfl))) (gds_c (gd_name (pg_name (i := 4) sc_seats_of.nd rfl (by first | exact .inl rfl | exact .inr rfl))) gds_nil)))) (SDs.ps (sds_one (sd_if (td_eq hr (ed_var (pv 3)) ed_str) (sds_one (sd_sub (ps_asg (ED.pe (ed_var (pv 2))) (pg_sub (ED.pe (ed_var (pv 1))) (ED.pe (ed_var (pv 4))) (PSet.or set_list (set_dict (hu1 hr))))))) (sds_one (sd_if (td_eq hr (ed_var (pv 3)) ed_str) (sds_one (sd_aug ok_ipadd (ps_aug (i := 2) sc_seats_of.nd rfl (by first | exact .inl rfl | exact .inr rfl) (ED.pe ed_int) ip_add))) sds_nil)))))))
  (sds_one (sd_ret (ed_var (pv 1)))))))
theorem ok_seats_of (Y : Fx K mg) : FnC P w K mg base "seats_of" 1 ["items"] [] F_seats_of := by
  obtain ⟨fd, FD⟩ := Y.c.def_ 13 (d := d_seats_of) rfl
  exact FnC.of FD (Y.glo 13) (ok_seats_of_fn FD Y) fun _ _ _ _ _ _ us hl => match us, hl with | [_], _ => rfl
theorem sc_led : FnScope ["row", "seats"] ["row", "seats"] (defScope s_led) := ⟨rfl, rfl, rfl, by decide +kernel, rfl, by decide +kernel, by decide +kernel⟩
theorem ok_led_fn {f : Addr} {fd : FuncData} (FD : FunD K d_led.name d_led.qual d_led.params d_led.body d_led.scope (He.DefD.dvs K d_led) (He.DefD.kws K d_led) f fd) (Y : Fx K mg) : FnOk P w K mg base CX0 1 f fd ["row", "seats"] (spS K 2 F_led) := by
  refine fn_ok FD sc_led fun cdv A outer s H E hr => ?_
  exact (sds_cons (sd_if (TDW.td (tw_and (td_ne hr (ed_ix hr (ed_var (pv 0)) ed_int (fun _ _ => rfl)) ed_str) (tw_and1 (td_ne hr (ed_ix hr (ed_var (pv 0)) ed_int (fun _ _ => rfl)) ed_str)))) (sds_one (sd_ret (ed_var (pv 0)))) sds_nil)
  (sds_cons (sd_if (td_notin hr (ed_ix hr (ed_var (pv 0)) (ed_neg ed_int) (fun _ _ => rfl)) (ed_var (pv 1)) rfl) (sds_one sd_never) sds_nil)
  (sds_one (sd_ret (ed_add (ed_sl (ed_var (pv 0)) od_none (od_some (ed_neg ed_int))) (ed_tup (ad_cons (ed_ix hr (ed_var (pv 1)) (ed_ix hr (ed_var (pv 0)) (ed_neg ed_int) (fun _ _ => rfl)) (fun _ _ => rfl)) ad_nil)))))))
theorem ok_led (Y : Fx K mg) : FnC P w K mg base "led" 1 ["row", "seats"] [] F_led := by
  obtain ⟨fd, FD⟩ := Y.c.def_ 14 (d := d_led) rfl
  exact FnC.of FD (Y.glo 14) (ok_led_fn FD Y) fun _ _ _ _ _ _ us hl => match us, hl with | [_, _], _ => rfl
theorem sc_read : FnScope ["text", "items", "seats", "cells", "shelves", "rows", "sort", "told"] ["text"] (defScope s_read) := ⟨rfl, rfl, rfl, by decide +kernel, rfl, by decide +kernel, by decide +kernel⟩
theorem ok_read_fn {f : Addr} {fd : FuncData} (FD : FunD K d_read.name d_read.qual d_read.params d_read.body d_read.scope (He.DefD.dvs K d_read) (He.DefD.kws K d_read) f fd) (Y : Fx K mg) : FnOk P w K mg base CX0 8 f fd ["text"] (spS K 1 F_read) := by
  refine fn_ok FD sc_read fun cdv A outer s H E hr => ?_
  exact (sds_cons (sd_set (ps_set (i := 1) sc_read.nd rfl (by first | exact .inl rfl | exact .inr rfl) (ED.pe (ed_callP (ok_items_of Y) rfl hr (by decide) (by rfl) dd0 (ad_cons (ed_var (pv 0)) ad_nil)))))
  (sds_cons (sd_expr (ed_callP (ok_need_once Y) rfl hr (by decide) (by rfl) dd0 (ad_cons (ed_var (pv 1)) ad_nil)))
  (sds_cons (sd_set (ps_set (i := 2) sc_read.nd rfl (by first | exact .inl rfl | exact .inr rfl) (ED.pe (ed_callP (ok_seats_of Y) rfl hr (by decide) (by rfl) dd0 (ad_cons (ed_var (pv 1)) ad_nil)))))
  (sds_cons (sd_set (ps_set (i := 3) sc_read.nd rfl (by first | exact .inl rfl | exact .inr rfl) (ED.pe (ed_prim (fun ha => pe_callTy (x := "tuple") call_tupAll (by rfl) Y.tb.tuple boot_tuple ha) ok_tuple (ad_cons (ed_lc (pe_lc (own := [("sort", 6), ("told", 7)]) rfl sc_read.nd (Dn.ID.pi (id_seq (ed_var (pv 1)))) (blkOk_by (by rfl)) (fun _ _ _ _ _ => (pg_tup rfl (pgs_cons (pg_name (i := 6) sc_read.nd rfl (by first | exact .inl rfl | exact .inr rfl)) (pgs_cons (pg_name (i := 7) sc_read.nd rfl (by first | exact .inl rfl | exact .inr rfl)) pgs_nil)))) (fun _ _ _ _ _ => (pts_one (TD.pt (td_eq hr (ed_var (pv 6)) ed_str)))) (fun _ _ _ _ _ => (ED.pe (ed_var (pv 7))))) (gw_tup (gws_cons (gw_name (by decide)) (gws_cons (gw_name (by decide)) gws_nil))) same_of) ad_nil)))))
  (sds_cons (sd_set (ps_set (i := 4) sc_read.nd rfl (by first | exact .inl rfl | exact .inr rfl) (ED.pe (ed_prim (fun ha => pe_callTy (x := "tuple") call_tupAll (by rfl) Y.tb.tuple boot_tuple ha) ok_tuple (ad_cons (ed_lc (pe_lc (own := [("sort", 6), ("told", 7)]) rfl sc_read.nd (Dn.ID.pi (id_seq (ed_var (pv 1)))) (blkOk_by (by rfl)) (fun _ _ _ _ _ => (pg_tup rfl (pgs_cons (pg_name (i := 6) sc_read.nd rfl (by first | exact .inl rfl | exact .inr rfl)) (pgs_cons (pg_name (i := 7) sc_read.nd rfl (by first | exact .inl rfl | exact .inr rfl)) pgs_nil)))) (fun _ _ _ _ _ => (pts_one (TD.pt (td_eq hr (ed_var (pv 6)) ed_str)))) (fun _ _ _ _ _ => (ED.pe (ed_var (pv 7))))) (gw_tup (gws_cons (gw_name (by decide)) (gws_cons (gw_name (by decide)) gws_nil))) same_of) ad_nil)))))
  (sds_cons (sd_set (ps_set (i := 5) sc_read.nd rfl (by first | exact .inl rfl | exact .inr rfl) (ED.pe (ed_prim (fun ha => pe_callTy (x := "tuple") call_tupAll (by rfl) Y.tb.tuple boot_tuple ha) ok_tuple (ad_cons (ed_lc (pe_lc (own := [("sort", 6), ("told", 7)]) rfl sc_read.nd (Dn.ID.pi (id_seq (ed_var (pv 1)))) (blkOk_by (by rfl)) (fun _ _ _ _ _ => (pg_tup rfl (pgs_cons (pg_name (i := 6) sc_read.nd rfl (by first | exact .inl rfl | exact .inr rfl)) (pgs_cons (pg_name (i := 7) sc_read.nd rfl (by first | exact .inl rfl | exact .inr rfl)) pgs_nil)))) (fun _ _ _ _ _ => (pts_one (TD.pt (td_eq hr (ed_var (pv 6)) ed_str)))) (fun _ _ _ _ _ => (ED.pe (ed_callP (ok_led Y) rfl hr (by decide) (by rfl) dd0 (ad_cons (ed_var (pv 7)) (ad_cons (ed_var (pv 2)) ad_nil)))))) (gw_tup (gws_cons (gw_name (by decide)) (gws_cons (gw_name (by decide)) gws_nil))) same_of) ad_nil)))))
  (sds_one (sd_ret (ed_tup (ad_cons (ed_var (pv 3)) (ad_cons (ed_var (pv 4)) (ad_cons (ed_var (pv 5)) ad_nil))))))))))))
theorem ok_read (Y : Fx K mg) : FnC P w K mg base "read" 8 ["text"] [] F_read := by
  obtain ⟨fd, FD⟩ := Y.c.def_ 15 (d := d_read) rfl
  exact FnC.of FD (Y.glo 15) (ok_read_fn FD Y) fun _ _ _ _ _ _ us hl => match us, hl with | [_], _ => rfl
theorem sc_line_of : FnScope ["row", "part"] ["row"] (defScope s_line_of) := ⟨rfl, rfl, rfl, by decide +kernel, rfl, by decide +kernel, by decide +kernel⟩
theorem ok_line_of_fn {f : Addr} {fd : FuncData} (FD : FunD K d_line_of.name d_line_of.qual d_line_of.params d_line_of.body d_line_of.scope (He.DefD.dvs K d_line_of) (He.DefD.kws K d_line_of) f fd) (Y : Fx K mg) : FnOk P w K mg base CX0 1 f fd ["row"] (spS K 1 F_line_of) := by
  refine fn_ok FD sc_line_of fun cdv A outer s H E hr => ?_
  exact (sds_cons (sd_if (td_eq hr (ed_ix hr (ed_var (pv 0)) ed_int (fun _ _ => rfl)) ed_str) (sds_one (sd_ret (ed_add (ed_add (ed_ix hr (ed_var (pv 0)) ed_int (fun _ _ => rfl)) ed_str) (ed_prim (fun ha => pe_callTy (x := "str") call_strAll (by rfl) Y.tb.str boot_str ha) ok_str (ad_cons (ed_ix hr (ed_var (pv 0)) ed_int (fun _ _ => rfl)) ad_nil))))) sds_nil)
  (sds_cons (sd_if (td_eq hr (ed_ix hr (ed_var (pv 0)) ed_int (fun _ _ => rfl)) ed_str) (sds_one (sd_ret (ed_add (ed_add (ed_add (ed_add (ed_add (ed_add (ed_ix hr (ed_var (pv 0)) ed_int (fun _ _ => rfl)) ed_str) (ed_prim (fun ha => pe_callTy (x := "str") call_strAll (by rfl) Y.tb.str boot_str ha) ok_str (ad_cons (ed_ix hr (ed_var (pv 0)) ed_int (fun _ _ => rfl)) ad_nil))) ed_str) (ed_ix hr (ed_var (pv 0)) ed_int (fun _ _ => rfl))) ed_str) (ed_prim (fun ha => pe_callTy (x := "str") call_strAll (by rfl) Y.tb.str boot_str ha) ok_str (ad_cons (ed_ix hr (ed_var (pv 0)) ed_int (fun _ _ => rfl)) ad_nil))))) sds_nil)
  (sds_cons (sd_if (TDW.td (tw_or (td_eq hr (ed_ix hr (ed_var (pv 0)) ed_int (fun _ _ => rfl)) ed_str) (tw_or1 (td_eq hr (ed_ix hr (ed_var (pv 0)) ed_int (fun _ _ => rfl)) ed_str)))) (sds_one (sd_ret (ed_add (ed_add (ed_m1 ok_join ed_str (ed_lc (pe_lc (own := [("part", 1)]) rfl sc_line_of.nd (Dn.ID.pi (id_seq (ed_sl (ed_var (pv 0)) od_none (od_some (ed_neg ed_int))))) (blkOk_by (by rfl)) (fun _ _ _ _ _ => (pg_name (i := 1) sc_line_of.nd rfl (by first | exact .inl rfl | exact .inr rfl))) (fun _ _ _ _ _ => pts_nil) (fun _ _ _ _ _ => (ED.pe (ed_prim (fun ha => pe_callTy (x := "str") call_strAll (by rfl) Y.tb.str boot_str ha) ok_str (ad_cons (ed_var (pv 1)) ad_nil))))) (gw_name (by decide)) yes_of) (fun ho hb => pe_join ho hb)) ed_str) (ed_prim (fun ha => pe_callTy (x := "str") call_strAll (by rfl) Y.tb.str boot_str ha) ok_str (ad_cons (ed_ix hr (ed_var (pv 0)) (ed_neg ed_int) (fun _ _ => rfl)) ad_nil))))) sds_nil)
  (sds_one (sd_ret (ed_m1 ok_join ed_str (ed_lc (pe_lc (own := [("part", 1)]) rfl sc_line_of.nd (Dn.ID.pi (id_seq (ed_var (pv 0)))) (blkOk_by (by rfl)) (fun _ _ _ _ _ => (pg_name (i := 1) sc_line_of.nd rfl (by first | exact .inl rfl | exact .inr rfl))) (fun _ _ _ _ _ => pts_nil) (fun _ _ _ _ _ => (ED.pe (ed_prim (fun ha => pe_callTy (x := "str") call_strAll (by rfl) Y.tb.str boot_str ha) ok_str (ad_cons (ed_var (pv 1)) ad_nil))))) (gw_name (by decide)) yes_of) (fun ho hb => pe_join ho hb)))))))
theorem ok_line_of (Y : Fx K mg) : FnC P w K mg base "line_of" 1 ["row"] [] F_line_of := by
  obtain ⟨fd, FD⟩ := Y.c.def_ 16 (d := d_line_of) rfl
  exact FnC.of FD (Y.glo 16) (ok_line_of_fn FD Y) fun _ _ _ _ _ _ us hl => match us, hl with | [_], _ => rfl
theorem sc_write : FnScope ["program", "lines", "goals", "cells", "shelves", "rows", "name", "start", "twin", "size", "at", "row"] ["program"] (defScope s_write) := ⟨rfl, rfl, rfl, by decide +kernel, rfl, by decide +kernel, by decide +kernel⟩
theorem ok_write_fn {f : Addr} {fd : FuncData} (FD : FunD K d_write.name d_write.qual d_write.params d_write.body d_write.scope (He.DefD.dvs K d_write) (He.DefD.kws K d_write) f fd) (Y : Fx K mg) : FnOk P w K mg base CX0 2 f fd ["program"] (spS K 1 F_write) := by
  refine fn_ok FD sc_write fun cdv A outer s H E hr => ?_
  exact (sds_cons (sd_asg (ps_asg (ED.pe (ed_var (pv 0))) (GD.pg (gd_t rfl (gds_c (gd_name (pg_name (i := 3) sc_write.nd rfl (by first | exact .inl rfl | exact .inr rfl))) (gds_c (gd_name (pg_name (i := 4) sc_write.nd rfl (by first | exact .inl rfl | exact .inr rfl))) (gds_c (gd_name (pg_name (i := 5) sc_write.nd rfl (by first | exact .inl rfl | exact .inr rfl))) gds_nil)))))))
  (sds_cons (sd_set (ps_set (i := 1) sc_write.nd rfl (by first | exact .inl rfl | exact .inr rfl) (ED.pe (ed_lstM ad_nil))))
  (sds_cons (sd_for (ps_for PassesOwn.never rfl (Dn.ID.pi (id_seq (ed_var (pv 3)))) (GD.pg (gd_t rfl (gds_c (gd_name (pg_name (i := 6) sc_write.nd rfl (by first | exact .inl rfl | exact .inr rfl))) (gds_c (gd_name (pg_name (i := 7) sc_write.nd rfl (by first | exact .inl rfl | exact .inr rfl))) (gds_c (gd_name (pg_name (i := 8) sc_write.nd rfl (by first | exact .inl rfl | exact .inr rfl))) gds_nil))))) (SDs.ps (sds_one (sd_expr (ed_mt ok_append (ed_var (pv 1)) (ad_cons (ed_add (ed_add (ed_add (ed_add (ed_ix hr (ed_lst (ad_cons ed_str (ad_cons ed_str ad_nil))) (ed_prim (fun ha => pe_callTy (x := "int") call_intAll (by rfl) Y.tb.int boot_int ha) ok_int (ad_cons (ed_var (pv 8)) ad_nil)) (fun _ _ => rfl)) ed_str) (ed_var (pv 6))) ed_str) (ed_prim (fun ha => pe_callTy (x := "str") call_strAll (by rfl) Y.tb.str boot_str ha) ok_str (ad_cons (ed_var (pv 7)) ad_nil))) ad_nil) (fun ho ha => pe_bm PySem.F.plainAttrs_list PySem.F.slot_list_append PySem.F.type_list_append mt_append ho ha)))))))
  (sds_cons (sd_for (ps_for PassesOwn.never rfl (Dn.ID.pi (id_seq (ed_var (pv 4)))) (GD.pg (gd_t rfl (gds_c (gd_name (pg_name (i := 6) sc_write.nd rfl (by first | exact .inl rfl | exact .inr rfl))) (gds_c (gd_name (pg_name (i := 9) sc_write.nd rfl (by first | exact .inl rfl | exact .inr rfl))) (gds_c (gd_name (pg_name (i := 8) sc_write.nd rfl (by first | exact .inl rfl | exact .inr rfl))) gds_nil))))) (SDs.ps (sds_one (sd_expr (ed_mt ok_append (ed_var (pv 1)) (ad_cons (ed_add (ed_add (ed_add (ed_add (ed_ix hr (ed_lst (ad_cons ed_str (ad_cons ed_str ad_nil))) (ed_prim (fun ha => pe_callTy (x := "int") call_intAll (by rfl) Y.tb.int boot_int ha) ok_int (ad_cons (ed_var (pv 8)) ad_nil)) (fun _ _ => rfl)) ed_str) (ed_var (pv 6))) ed_str) (ed_prim (fun ha => pe_callTy (x := "str") call_strAll (by rfl) Y.tb.str boot_str ha) ok_str (ad_cons (ed_var (pv 9)) ad_nil))) ad_nil) (fun ho ha => pe_bm PySem.F.plainAttrs_list PySem.F.slot_list_append PySem.F.type_list_append mt_append ho ha)))))))
  (sds_cons (sd_setLc (i := 2) (ps_setLc (own := [("row", 11)]) rfl sc_write.nd rfl rfl rfl (Dn.ID.pi (id_seq (ed_var (pv 5)))) (blkOk_by (by rfl)) (fun _ _ _ _ _ => (pg_name (i := 11) sc_write.nd rfl (by first | exact .inl rfl | exact .inr rfl))) (fun _ _ _ _ _ => (pts_one (TD.pt (TDW.td (tw_or (td_eq hr (ed_ix hr (ed_var (pv 11)) ed_int (fun _ _ => rfl)) ed_str) (tw_or1 (td_eq hr (ed_ix hr (ed_var (pv 11)) ed_int (fun _ _ => rfl)) ed_str))))))) (fun _ _ _ _ _ => (ED.pe (ed_ix hr (ed_var (pv 11)) (ed_neg ed_int) (fun _ _ => rfl))))) (gw_name (by decide)) same_of)
  (sds_cons (sd_for (ps_for PassesOwn.never rfl (Dn.ID.pi (id_enum2 (ad_cons (ed_var (pv 5)) ad_nil) (fun ha => pi_enum (by rfl) Y.tb.enumerate ha) (fun ha => pi_enumT (by rfl) Y.tb.enumerate ha))) (GD.pg (gd_t rfl (gds_c (gd_name (pg_name (i := 10) sc_write.nd rfl (by first | exact .inl rfl | exact .inr rfl))) (gds_c (gd_name (pg_name (i := 11) sc_write.nd rfl (by first | exact .inl rfl | exact .inr rfl))) gds_nil)))) (SDs.ps (sds_cons (sd_if (td_in hr (ed_var (pv 10)) (ed_var (pv 2)) rfl) (sds_one (sd_expr (ed_mt ok_append (ed_var (pv 1)) (ad_cons (ed_add ed_str (ed_prim (fun ha => pe_callTy (x := "str") call_strAll (by rfl) Y.tb.str boot_str ha) ok_str (ad_cons (ed_var (pv 10)) ad_nil))) ad_nil) (fun ho ha => pe_bm PySem.F.plainAttrs_list PySem.F.slot_list_append PySem.F.type_list_append mt_append ho ha)))) sds_nil)
  (sds_one (sd_expr (ed_mt ok_append (ed_var (pv 1)) (ad_cons (ed_callP (ok_line_of Y) rfl hr (by decide) (by rfl) dd0 (ad_cons (ed_var (pv 11)) ad_nil)) ad_nil) (fun ho ha => pe_bm PySem.F.plainAttrs_list PySem.F.slot_list_append PySem.F.type_list_append mt_append ho ha))))))))
  (sds_cons (sd_if (td_in hr (ed_prim (fun ha => pe_callB (x := "len") call_lenAll (by rfl) Y.tb.len boot_len ha) ok_len (ad_cons (ed_var (pv 5)) ad_nil)) (ed_var (pv 2)) rfl) (sds_one (sd_expr (ed_mt ok_append (ed_var (pv 1)) (ad_cons (ed_add ed_str (ed_prim (fun ha => pe_callTy (x := "str") call_strAll (by rfl) Y.tb.str boot_str ha) ok_str (ad_cons (ed_prim (fun ha => pe_callB (x := "len") call_lenAll (by rfl) Y.tb.len boot_len ha) ok_len (ad_cons (ed_var (pv 5)) ad_nil)) ad_nil))) ad_nil) (fun ho ha => pe_bm PySem.F.plainAttrs_list PySem.F.slot_list_append PySem.F.type_list_append mt_append ho ha)))) sds_nil)
  (sds_one (sd_ret (ed_m1 ok_join ed_str (ed_var (pv 1)) (fun ho hb => pe_join ho hb)))))))))))
theorem ok_write (Y : Fx K mg) : FnC P w K mg base "write" 2 ["program"] [] F_write := by
  obtain ⟨fd, FD⟩ := Y.c.def_ 17 (d := d_write) rfl
  exact FnC.of FD (Y.glo 17) (ok_write_fn FD Y) fun _ _ _ _ _ _ us hl => match us, hl with | [_], _ => rfl
theorem sc_law_cell : FnScope ["_law_script", "_law_k", "_law_seed"] ["_law_script", "_law_k"] (defScope s_law_cell) := ⟨rfl, rfl, rfl, by decide +kernel, rfl, by decide +kernel, by decide +kernel⟩
theorem ok_law_cell_fn {f : Addr} {fd : FuncData} (FD : FunD K d_law_cell.name d_law_cell.qual d_law_cell.params d_law_cell.body d_law_cell.scope (He.DefD.dvs K d_law_cell) (He.DefD.kws K d_law_cell) f fd) (Y : Fx K mg) : FnOk P w K mg base CX0 1 f fd ["_law_script", "_law_k"] (spS K 2 F_law_cell) := by
  refine fn_ok FD sc_law_cell fun cdv A outer s H E hr => ?_
  exact (sds_cons (sd_if (td_lt (ed_var (pv 1)) (ed_prim (fun ha => pe_callB (x := "len") call_lenAll (by rfl) Y.tb.len boot_len ha) ok_len (ad_cons (ed_var (pv 0)) ad_nil))) (sds_one (sd_ret (ed_ix hr (ed_var (pv 0)) (ed_var (pv 1)) (fun _ _ => rfl)))) sds_nil)
  (sds_cons (sd_set (ps_set (i := 2) sc_law_cell.nd rfl (by first | exact .inl rfl | exact .inr rfl) (ED.pe ed_int)))
  (sds_cons (sd_if (td_gt (ed_prim (fun ha => pe_callB (x := "len") call_lenAll (by rfl) Y.tb.len boot_len ha) ok_len (ad_cons (ed_var (pv 0)) ad_nil)) ed_int) (sds_one (sd_set (ps_set (i := 2) sc_law_cell.nd rfl (by first | exact .inl rfl | exact .inr rfl) (ED.pe (ed_mod (ed_ix hr (ed_var (pv 0)) (ed_mod (ed_var (pv 1)) (ed_prim (fun ha => pe_callB (x := "len") call_lenAll (by rfl) Y.tb.len boot_len ha) ok_len (ad_cons (ed_var (pv 0)) ad_nil))) (fun _ _ => rfl)) ed_int))))) sds_nil)
  (sds_one (sd_ret (ed_mod (ed_mul (ed_add (ed_add (ed_var (pv 2)) (ed_mul ed_int (ed_var (pv 1)))) ed_int) (ed_add (ed_add (ed_var (pv 2)) (ed_mul ed_int (ed_var (pv 1)))) ed_int)) ed_int))))))
theorem ok_law_cell (Y : Fx K mg) : FnC P w K mg base "_law_cell" 1 ["_law_script", "_law_k"] [] F_law_cell := by
  obtain ⟨fd, FD⟩ := Y.c.def_ 18 (d := d_law_cell) rfl
  exact FnC.of FD (Y.glo 18) (ok_law_cell_fn FD Y) fun _ _ _ _ _ _ us hl => match us, hl with | [_, _], _ => rfl
theorem sc_law_part : FnScope ["_law_cell_here", "_law_j", "_law_many", "_law_primes"] ["_law_cell_here", "_law_j", "_law_many"] (defScope s_law_part) := ⟨rfl, rfl, rfl, by decide +kernel, rfl, by decide +kernel, by decide +kernel⟩
theorem ok_law_part_fn {f : Addr} {fd : FuncData} (FD : FunD K d_law_part.name d_law_part.qual d_law_part.params d_law_part.body d_law_part.scope (He.DefD.dvs K d_law_part) (He.DefD.kws K d_law_part) f fd) (Y : Fx K mg) : FnOk P w K mg base CX0 1 f fd ["_law_cell_here", "_law_j", "_law_many"] (spS K 3 F_law_part) := by
  refine fn_ok FD sc_law_part fun cdv A outer s H E hr => ?_
  exact (sds_cons (sd_set (ps_set (i := 3) sc_law_part.nd rfl (by first | exact .inl rfl | exact .inr rfl) (ED.pe (ed_tup (ad_cons ed_int (ad_cons ed_int (ad_cons ed_int (ad_cons ed_int (ad_cons ed_int (ad_cons ed_int (ad_cons ed_int (ad_cons ed_int ad_nil))))))))))))
  (sds_one (sd_ret (ed_mod (ed_mod (ed_add (ed_mul (ed_var (pv 0)) ed_int) (ed_mul ed_int (ed_var (pv 1)))) (ed_ix hr (ed_var (pv 3)) (ed_mod (ed_var (pv 1)) ed_int) (fun _ _ => rfl))) (ed_var (pv 2))))))
theorem ok_law_part (Y : Fx K mg) : FnC P w K mg base "_law_part" 1 ["_law_cell_here", "_law_j", "_law_many"] [] F_law_part := by
  obtain ⟨fd, FD⟩ := Y.c.def_ 19 (d := d_law_part) rfl
  exact FnC.of FD (Y.glo 19) (ok_law_part_fn FD Y) fun _ _ _ _ _ _ us hl => match us, hl with | [_, _, _], _ => rfl
theorem sc_law_name : FnScope ["_law_base", "_law_k", "_law_letters", "_law_words", "_law_like", "_law_size", "_law_some", "_law_j"] ["_law_base", "_law_k"] (defScope s_law_name) := ⟨rfl, rfl, rfl, by decide +kernel, rfl, by decide +kernel, by decide +kernel⟩
theorem ok_law_name_fn {f : Addr} {fd : FuncData} (FD : FunD K d_law_name.name d_law_name.qual d_law_name.params d_law_name.body d_law_name.scope (He.DefD.dvs K d_law_name) (He.DefD.kws K d_law_name) f fd) (Y : Fx K mg) : FnOk P w K mg base CX0 2 f fd ["_law_base", "_law_k"] (spS K 2 F_law_name) := by
  refine fn_ok FD sc_law_name fun cdv A outer s H E hr => ?_
  exact (sds_cons (sd_set (ps_set (i := 2) sc_law_name.nd rfl (by first | exact .inl rfl | exact .inr rfl) (ED.pe ed_str)))
  (sds_cons (sd_set (ps_set (i := 3) sc_law_name.nd rfl (by first | exact .inl rfl | exact .inr rfl) (ED.pe (ed_lst (ad_cons ed_str (ad_cons ed_str (ad_cons ed_str (ad_cons ed_str (ad_cons ed_str (ad_cons ed_str (ad_cons ed_str (ad_cons ed_str (ad_cons ed_str (ad_cons ed_str (ad_cons ed_str (ad_cons ed_str (ad_cons ed_str (ad_cons ed_str ad_nil))))))))))))))))))
  (sds_cons (sd_set (ps_set (i := 4) sc_law_name.nd rfl (by first | exact .inl rfl | exact .inr rfl) (ED.pe (ed_eq hr (ed_callP (ok_law_part Y) rfl hr (by decide) (by rfl) dd0 (ad_cons (ed_var (pv 0)) (ad_cons ed_int (ad_cons ed_int ad_nil)))) ed_int))))
  (sds_cons (sd_if (TDW.td (tw_and (td_val (ed_var (pv 4))) (tw_and1 (td_lt (ed_var (pv 1)) ed_int)))) (sds_one (sd_ret (ed_ix hr (ed_var (pv 3)) (ed_mod (ed_add (ed_var (pv 1)) (ed_callP (ok_law_part Y) rfl hr (by decide) (by rfl) dd0 (ad_cons (ed_var (pv 0)) (ad_cons ed_int (ad_cons ed_int ad_nil))))) ed_int) (fun _ _ => rfl)))) sds_nil)
  (sds_cons (sd_set (ps_set (i := 5) sc_law_name.nd rfl (by first | exact .inl rfl | exact .inr rfl) (ED.pe (ed_add ed_int (ed_callP (ok_law_part Y) rfl hr (by decide) (by rfl) dd0 (ad_cons (ed_var (pv 0)) (ad_cons ed_int (ad_cons (ed_sub ed_int (ed_prim (fun ha => pe_callTy (x := "int") call_intAll (by rfl) Y.tb.int boot_int ha) ok_int (ad_cons (ed_var (pv 4)) ad_nil))) ad_nil))))))))
  (sds_cons (sd_setLcM (i := 6) (ps_setLc (own := [("_law_j", 7)]) rfl sc_law_name.nd rfl rfl rfl (Dn.ID.pi (id_range1 (ad_cons (ed_var (pv 5)) ad_nil) (fun ha => pi_range1 (by rfl) Y.tb.range ha))) (blkOk_by (by rfl)) (fun _ _ _ _ _ => (pg_name (i := 7) sc_law_name.nd rfl (by first | exact .inl rfl | exact .inr rfl))) (fun _ _ _ _ _ => pts_nil) (fun _ _ _ _ _ => (ED.pe (ed_ix hr (ed_var (pv 2)) (ed_callP (ok_law_part Y) rfl hr (by decide) (by rfl) dd0 (ad_cons (ed_var (pv 0)) (ad_cons (ed_var (pv 7)) (ad_cons ed_int ad_nil)))) (fun _ _ => rfl))))) (gw_name (by decide)) yes_of)
  (sds_cons (sd_sub (ps_asg (ED.pe (ed_ix hr (ed_var (pv 2)) (ed_mod (ed_add (ed_callP (ok_law_part Y) rfl hr (by decide) (by rfl) dd0 (ad_cons (ed_var (pv 0)) (ad_cons ed_int (ad_cons ed_int ad_nil)))) (ed_var (pv 1))) ed_int) (fun _ _ => rfl))) (pg_sub (ED.pe (ed_var (pv 6))) (ED.pe (ed_callP (ok_law_part Y) rfl hr (by decide) (by rfl) dd0 (ad_cons (ed_var (pv 0)) (ad_cons ed_int (ad_cons (ed_var (pv 5)) ad_nil))))) (PSet.or set_list (set_dict (hu1 hr))))))
  (sds_one (sd_ret (ed_add (ed_m1 ok_join ed_str (ed_var (pv 6)) (fun ho hb => pe_join ho hb)) (ed_mulS ed_str (ed_prim (fun ha => pe_callTy (x := "int") call_intAll (by rfl) Y.tb.int boot_int ha) ok_int (ad_cons (ed_var (pv 4)) ad_nil)))))))))))))
theorem ok_law_name (Y : Fx K mg) : FnC P w K mg base "_law_name" 2 ["_law_base", "_law_k"] [] F_law_name := by
  obtain ⟨fd, FD⟩ := Y.c.def_ 20 (d := d_law_name) rfl
  exact FnC.of FD (Y.glo 20) (ok_law_name_fn FD Y) fun _ _ _ _ _ _ us hl => match us, hl with | [_, _], _ => rfl
theorem sc_law_atom : FnScope ["_law_cell_here", "_law_j", "_law_base", "_law_way"] ["_law_cell_here", "_law_j", "_law_base"] (defScope s_law_atom) := ⟨rfl, rfl, rfl, by decide +kernel, rfl, by decide +kernel, by decide +kernel⟩
theorem ok_law_atom_fn {f : Addr} {fd : FuncData} (FD : FunD K d_law_atom.name d_law_atom.qual d_law_atom.params d_law_atom.body d_law_atom.scope (He.DefD.dvs K d_law_atom) (He.DefD.kws K d_law_atom) f fd) (Y : Fx K mg) : FnOk P w K mg base CX0 3 f fd ["_law_cell_here", "_law_j", "_law_base"] (spS K 3 F_law_atom) := by
  refine fn_ok FD sc_law_atom fun cdv A outer s H E hr => ?_
  exact (sds_cons (sd_set (ps_set (i := 3) sc_law_atom.nd rfl (by first | exact .inl rfl | exact .inr rfl) (ED.pe (ed_callP (ok_law_part Y) rfl hr (by decide) (by rfl) dd0 (ad_cons (ed_var (pv 0)) (ad_cons (ed_var (pv 1)) (ad_cons ed_int ad_nil)))))))
  (sds_cons (sd_if (td_eq hr (ed_var (pv 3)) ed_int) (sds_one (sd_ret (ed_ix hr (ed_lst (ad_cons ed_int (ad_cons ed_int (ad_cons ed_int (ad_cons ed_int (ad_cons (ed_sub (ed_pow ed_int ed_int) ed_int) (ad_cons (ed_pow ed_int ed_int) ad_nil))))))) (ed_callP (ok_law_part Y) rfl hr (by decide) (by rfl) dd0 (ad_cons (ed_var (pv 0)) (ad_cons (ed_add (ed_var (pv 1)) ed_int) (ad_cons ed_int ad_nil)))) (fun _ _ => rfl)))) sds_nil)
  (sds_cons (sd_if (td_eq hr (ed_var (pv 3)) ed_int) (sds_one (sd_ret (ed_mod (ed_mul (ed_var (pv 0)) ed_int) (ed_pow ed_int ed_int)))) sds_nil)
  (sds_one (sd_ret (ed_callP (ok_law_name Y) rfl hr (by decide) (by rfl) dd0 (ad_cons (ed_var (pv 2)) (ad_cons (ed_callP (ok_law_part Y) rfl hr (by decide) (by rfl) dd0 (ad_cons (ed_var (pv 0)) (ad_cons (ed_add (ed_var (pv 1)) ed_int) (ad_cons ed_int ad_nil)))) ad_nil))))))))
theorem ok_law_atom (Y : Fx K mg) : FnC P w K mg base "_law_atom" 3 ["_law_cell_here", "_law_j", "_law_base"] [] F_law_atom := by
  obtain ⟨fd, FD⟩ := Y.c.def_ 21 (d := d_law_atom) rfl
  exact FnC.of FD (Y.glo 21) (ok_law_atom_fn FD Y) fun _ _ _ _ _ _ us hl => match us, hl with | [_, _, _], _ => rfl
theorem sc_law_row : FnScope ["_law_cell_here", "_law_base", "_law_many", "_law_x", "_law_a", "_law_b", "_law_c", "_law_kind", "_law_goal"] ["_law_cell_here", "_law_base", "_law_many"] (defScope s_law_row) := ⟨rfl, rfl, rfl, by decide +kernel, rfl, by decide +kernel, by decide +kernel⟩
theorem ok_law_row_fn {f : Addr} {fd : FuncData} (FD : FunD K d_law_row.name d_law_row.qual d_law_row.params d_law_row.body d_law_row.scope (He.DefD.dvs K d_law_row) (He.DefD.kws K d_law_row) f fd) (Y : Fx K mg) : FnOk P w K mg base CX0 4 f fd ["_law_cell_here", "_law_base", "_law_many"] (spS K 3 F_law_row) := by
  refine fn_ok FD sc_law_row fun cdv A outer s H E hr => ?_
  exact (sds_cons (sd_set (ps_set (i := 3) sc_law_row.nd rfl (by first | exact .inl rfl | exact .inr rfl) (ED.pe (ed_callP (ok_law_name Y) rfl hr (by decide) (by rfl) dd0 (ad_cons (ed_var (pv 1)) (ad_cons (ed_callP (ok_law_part Y) rfl hr (by decide) (by rfl) dd0 (ad_cons (ed_var (pv 0)) (ad_cons ed_int (ad_cons ed_int ad_nil)))) ad_nil))))))
  (sds_cons (sd_set (ps_set (i := 4) sc_law_row.nd rfl (by first | exact .inl rfl | exact .inr rfl) (ED.pe (ed_callP (ok_law_atom Y) rfl hr (by decide) (by rfl) dd0 (ad_cons (ed_var (pv 0)) (ad_cons ed_int (ad_cons (ed_var (pv 1)) ad_nil)))))))
  (sds_cons (sd_set (ps_set (i := 5) sc_law_row.nd rfl (by first | exact .inl rfl | exact .inr rfl) (ED.pe (ed_callP (ok_law_atom Y) rfl hr (by decide) (by rfl) dd0 (ad_cons (ed_var (pv 0)) (ad_cons ed_int (ad_cons (ed_var (pv 1)) ad_nil)))))))
  (sds_cons (sd_set (ps_set (i := 6) sc_law_row.nd rfl (by first | exact .inl rfl | exact .inr rfl) (ED.pe (ed_callP (ok_law_name Y) rfl hr (by decide) (by rfl) dd0 (ad_cons (ed_var (pv 1)) (ad_cons (ed_add ed_int (ed_callP (ok_law_part Y) rfl hr (by decide) (by rfl) dd0 (ad_cons (ed_var (pv 0)) (ad_cons ed_int (ad_cons ed_int ad_nil))))) ad_nil))))))
  (sds_cons (sd_set (ps_set (i := 7) sc_law_row.nd rfl (by first | exact .inl rfl | exact .inr rfl) (ED.pe (ed_callP (ok_law_part Y) rfl hr (by decide) (by rfl) dd0 (ad_cons (ed_var (pv 0)) (ad_cons ed_int (ad_cons ed_int ad_nil)))))))
  (sds_cons (sd_if (td_lt (ed_var (pv 7)) ed_int) (sds_one (sd_ret (ed_tup (ad_cons ed_str (ad_cons (ed_var (pv 3)) (ad_cons (ed_var (pv 4)) ad_nil)))))) sds_nil)
  (sds_cons (sd_if (td_eq hr (ed_var (pv 7)) ed_int) (sds_one (sd_ret (ed_tup (ad_cons ed_str (ad_cons (ed_var (pv 3)) (ad_cons (ed_ix hr ed_str (ed_callP (ok_law_part Y) rfl hr (by decide) (by rfl) dd0 (ad_cons (ed_var (pv 0)) (ad_cons ed_int (ad_cons ed_int ad_nil)))) (fun _ _ => rfl)) (ad_cons (ed_var (pv 4)) (ad_cons (ed_var (pv 5)) ad_nil)))))))) sds_nil)
  (sds_cons (sd_if (td_eq hr (ed_var (pv 7)) ed_int) (sds_one (sd_ret (ed_tup (ad_cons ed_str (ad_cons (ed_var (pv 3)) (ad_cons (ed_var (pv 6)) ad_nil)))))) sds_nil)
  (sds_cons (sd_if (td_eq hr (ed_var (pv 7)) ed_int) (sds_one (sd_ret (ed_tup (ad_cons ed_str (ad_cons (ed_var (pv 6)) (ad_cons (ed_var (pv 4)) ad_nil)))))) sds_nil)
  (sds_cons (sd_if (td_eq hr (ed_var (pv 7)) ed_int) (sds_one (sd_ret (ed_tup (ad_cons ed_str (ad_cons (ed_var (pv 3)) (ad_cons (ed_var (pv 6)) (ad_cons (ed_var (pv 4)) ad_nil))))))) sds_nil)
  (sds_cons (sd_if (td_eq hr (ed_var (pv 7)) ed_int) (sds_one (sd_ret (ed_tup (ad_cons ed_str (ad_cons (ed_var (pv 6)) (ad_cons (ed_var (pv 4)) (ad_cons (ed_var (pv 5)) ad_nil))))))) sds_nil)
  (sds_cons (sd_if (td_eq hr (ed_var (pv 7)) ed_int) (sds_one (sd_ret (ed_tup (ad_cons ed_str (ad_cons (ed_var (pv 3)) ad_nil))))) sds_nil)
  (sds_cons (sd_if (td_lt (ed_var (pv 7)) ed_int) (sds_one (sd_ret (ed_tup (ad_cons (ed_ix hr (ed_lst (ad_cons ed_str (ad_cons ed_str ad_nil))) (ed_sub (ed_var (pv 7)) ed_int) (fun _ _ => rfl)) (ad_cons (ed_var (pv 4)) ad_nil))))) sds_nil)
  (sds_cons (sd_set (ps_set (i := 8) sc_law_row.nd rfl (by first | exact .inl rfl | exact .inr rfl) (ED.pe (ed_callP (ok_law_part Y) rfl hr (by decide) (by rfl) dd0 (ad_cons (ed_var (pv 0)) (ad_cons ed_int (ad_cons (ed_add (ed_var (pv 2)) ed_int) ad_nil)))))))
  (sds_one (sd_ret (ed_ix hr (ed_lst (ad_cons (ed_tup (ad_cons ed_str (ad_cons (ed_var (pv 4)) (ad_cons (ed_var (pv 8)) ad_nil)))) (ad_cons (ed_tup (ad_cons ed_str (ad_cons (ed_var (pv 8)) ad_nil))) ad_nil))) (ed_sub (ed_var (pv 7)) ed_int) (fun _ _ => rfl))))))))))))))))))
theorem ok_law_row (Y : Fx K mg) : FnC P w K mg base "_law_row" 4 ["_law_cell_here", "_law_base", "_law_many"] [] F_law_row := by
  obtain ⟨fd, FD⟩ := Y.c.def_ 22 (d := d_law_row) rfl
  exact FnC.of FD (Y.glo 22) (ok_law_row_fn FD Y) fun _ _ _ _ _ _ us hl => match us, hl with | [_, _, _], _ => rfl
theorem sc_law_line : FnScope ["_law_row_here", "_law_words", "_law_part_here"] ["_law_row_here"] (defScope s_law_line) := ⟨rfl, rfl, rfl, by decide +kernel, rfl, by decide +kernel, by decide +kernel⟩
theorem ok_law_line_fn {f : Addr} {fd : FuncData} (FD : FunD K d_law_line.name d_law_line.qual d_law_line.params d_law_line.body d_law_line.scope (He.DefD.dvs K d_law_line) (He.DefD.kws K d_law_line) f fd) (Y : Fx K mg) : FnOk P w K mg base CX0 1 f fd ["_law_row_here"] (spS K 1 F_law_line) := by
  refine fn_ok FD sc_law_line fun cdv A outer s H E hr => ?_
  exact (sds_cons (sd_setLcM (i := 1) (ps_setLc (own := [("_law_part_here", 2)]) rfl sc_law_line.nd rfl rfl rfl (Dn.ID.pi (id_seq (ed_var (pv 0)))) (blkOk_by (by rfl)) (fun _ _ _ _ _ => (pg_name (i := 2) sc_law_line.nd rfl (by first | exact .inl rfl | exact .inr rfl))) (fun _ _ _ _ _ => pts_nil) (fun _ _ _ _ _ => (ED.pe (ed_prim (fun ha => pe_callTy (x := "str") call_strAll (by rfl) Y.tb.str boot_str ha) ok_str (ad_cons (ed_var (pv 2)) ad_nil))))) (gw_name (by decide)) yes_of)
  (sds_cons (sd_if (td_eq hr (ed_ix hr (ed_var (pv 0)) ed_int (fun _ _ => rfl)) ed_str) (sds_one (sd_set (ps_set (i := 1) sc_law_line.nd rfl (by first | exact .inl rfl | exact .inr rfl) (ED.pe (ed_lstM (ad_cons (ed_ix hr (ed_var (pv 0)) ed_int (fun _ _ => rfl)) (ad_cons ed_str (ad_cons (ed_prim (fun ha => pe_callTy (x := "str") call_strAll (by rfl) Y.tb.str boot_str ha) ok_str (ad_cons (ed_ix hr (ed_var (pv 0)) ed_int (fun _ _ => rfl)) ad_nil)) ad_nil)))))))) sds_nil)
  (sds_cons (sd_if (td_eq hr (ed_ix hr (ed_var (pv 0)) ed_int (fun _ _ => rfl)) ed_str) (sds_one (sd_set (ps_set (i := 1) sc_law_line.nd rfl (by first | exact .inl rfl | exact .inr rfl) (ED.pe (ed_lstM (ad_cons (ed_ix hr (ed_var (pv 0)) ed_int (fun _ _ => rfl)) (ad_cons ed_str (ad_cons (ed_prim (fun ha => pe_callTy (x := "str") call_strAll (by rfl) Y.tb.str boot_str ha) ok_str (ad_cons (ed_ix hr (ed_var (pv 0)) ed_int (fun _ _ => rfl)) ad_nil)) (ad_cons (ed_ix hr (ed_var (pv 0)) ed_int (fun _ _ => rfl)) (ad_cons (ed_prim (fun ha => pe_callTy (x := "str") call_strAll (by rfl) Y.tb.str boot_str ha) ok_str (ad_cons (ed_ix hr (ed_var (pv 0)) ed_int (fun _ _ => rfl)) ad_nil)) ad_nil)))))))))) sds_nil)
  (sds_cons (sd_if (TDW.td (tw_or (td_eq hr (ed_ix hr (ed_var (pv 0)) ed_int (fun _ _ => rfl)) ed_str) (tw_or1 (td_eq hr (ed_ix hr (ed_var (pv 0)) ed_int (fun _ _ => rfl)) ed_str)))) (sds_one (sd_sub (ps_asg (ED.pe (ed_add ed_str (ed_ix hr (ed_var (pv 1)) (ed_neg ed_int) (fun _ _ => rfl)))) (pg_sub (ED.pe (ed_var (pv 1))) (ED.pe (ed_neg ed_int)) (PSet.or set_list (set_dict (hu1 hr))))))) sds_nil)
  (sds_one (sd_ret (ed_m1 ok_join ed_str (ed_var (pv 1)) (fun ho hb => pe_join ho hb))))))))
theorem ok_law_line (Y : Fx K mg) : FnC P w K mg base "_law_line" 1 ["_law_row_here"] [] F_law_line := by
  obtain ⟨fd, FD⟩ := Y.c.def_ 23 (d := d_law_line) rfl
  exact FnC.of FD (Y.glo 23) (ok_law_line_fn FD Y) fun _ _ _ _ _ _ us hl => match us, hl with | [_], _ => rfl
theorem sc_law_program : FnScope ["_law_script", "_law_at", "_law_cell_here", "_law_base", "_law_many", "_law_sizes", "_law_cells", "_law_k", "_law_shelves", "_law_rows", "_law_other", "_law_start"] ["_law_script", "_law_at"] (defScope s_law_program) := ⟨rfl, rfl, rfl, by decide +kernel, rfl, by decide +kernel, by decide +kernel⟩
theorem ok_law_program_fn {f : Addr} {fd : FuncData} (FD : FunD K d_law_program.name d_law_program.qual d_law_program.params d_law_program.body d_law_program.scope (He.DefD.dvs K d_law_program) (He.DefD.kws K d_law_program) f fd) (Y : Fx K mg) : FnOk P w K mg base CX0 5 f fd ["_law_script", "_law_at"] (spS K 2 F_law_program) := by
  refine fn_ok FD sc_law_program fun cdv A outer s H E hr => ?_
  exact (sds_cons (sd_set (ps_set (i := 2) sc_law_program.nd rfl (by first | exact .inl rfl | exact .inr rfl) (ED.pe (ed_callP (ok_law_cell Y) rfl hr (by decide) (by rfl) dd0 (ad_cons (ed_var (pv 0)) (ad_cons (ed_var (pv 1)) ad_nil))))))
  (sds_cons (sd_set (ps_set (i := 3) sc_law_program.nd rfl (by first | exact .inl rfl | exact .inr rfl) (ED.pe (ed_callP (ok_law_cell Y) rfl hr (by decide) (by rfl) dd0 (ad_cons (ed_var (pv 0)) (ad_cons (ed_add (ed_var (pv 1)) ed_int) ad_nil))))))
  (sds_cons (sd_set (ps_set (i := 4) sc_law_program.nd rfl (by first | exact .inl rfl | exact .inr rfl) (ED.pe (ed_add ed_int (ed_callP (ok_law_part Y) rfl hr (by decide) (by rfl) dd0 (ad_cons (ed_var (pv 2)) (ad_cons ed_int (ad_cons ed_int ad_nil))))))))
  (sds_cons (sd_set (ps_set (i := 5) sc_law_program.nd rfl (by first | exact .inl rfl | exact .inr rfl) (ED.pe (ed_lst (ad_cons (ed_callP (ok_law_part Y) rfl hr (by decide) (by rfl) dd0 (ad_cons (ed_var (pv 2)) (ad_cons ed_int (ad_cons ed_int ad_nil)))) (ad_cons (ed_callP (ok_law_part Y) rfl hr (by decide) (by rfl) dd0 (ad_cons (ed_var (pv 2)) (ad_cons ed_int (ad_cons ed_int ad_nil)))) ad_nil))))))
  (sds_cons (sd_if (td_eq hr (ed_callP (ok_law_part Y) rfl hr (by decide) (by rfl) dd0 (ad_cons (ed_var (pv 2)) (ad_cons ed_int (ad_cons ed_int ad_nil)))) ed_int) (sds_one (sd_set (ps_set (i := 5) sc_law_program.nd rfl (by first | exact .inl rfl | exact .inr rfl) (ED.pe (ed_lst (ad_cons ed_int (ad_cons ed_int ad_nil))))))) sds_nil)
  (sds_cons (sd_if (td_eq hr (ed_callP (ok_law_part Y) rfl hr (by decide) (by rfl) dd0 (ad_cons (ed_var (pv 2)) (ad_cons ed_int (ad_cons ed_int ad_nil)))) ed_int) (sds_one (sd_set (ps_set (i := 4) sc_law_program.nd rfl (by first | exact .inl rfl | exact .inr rfl) (ED.pe (ed_add ed_int (ed_callP (ok_law_part Y) rfl hr (by decide) (by rfl) dd0 (ad_cons (ed_var (pv 2)) (ad_cons ed_int (ad_cons ed_int ad_nil))))))))) sds_nil)
  (sds_cons (sd_set (ps_set (i := 6) sc_law_program.nd rfl (by first | exact .inl rfl | exact .inr rfl) (ED.pe (ed_lstM ad_nil))))
  (sds_cons (sd_for (ps_for PassesOwn.never rfl (Dn.ID.pi (id_range1 (ad_cons (ed_ix hr (ed_var (pv 5)) ed_int (fun _ _ => rfl)) ad_nil) (fun ha => pi_range1 (by rfl) Y.tb.range ha))) (GD.pg (gd_name (pg_name (i := 7) sc_law_program.nd rfl (by first | exact .inl rfl | exact .inr rfl)))) (SDs.ps (sds_cons (sd_set (ps_set (i := 10) sc_law_program.nd rfl (by first | exact .inl rfl | exact .inr rfl) (ED.pe (ed_callP (ok_law_cell Y) rfl hr (by decide) (by rfl) dd0 (ad_cons (ed_var (pv 0)) (ad_cons (ed_add (ed_add (ed_var (pv 1)) ed_int) (ed_var (pv 7))) ad_nil))))))
  (sds_cons (sd_set (ps_set (i := 11) sc_law_program.nd rfl (by first | exact .inl rfl | exact .inr rfl) (ED.pe (ed_ix hr (ed_lst (ad_cons (ed_callP (ok_law_part Y) rfl hr (by decide) (by rfl) dd0 (ad_cons (ed_var (pv 10)) (ad_cons ed_int (ad_cons ed_int ad_nil)))) (ad_cons (ed_mod (ed_mul (ed_var (pv 10)) ed_int) (ed_pow ed_int ed_int)) ad_nil))) (ed_callP (ok_law_part Y) rfl hr (by decide) (by rfl) dd0 (ad_cons (ed_var (pv 10)) (ad_cons ed_int (ad_cons ed_int ad_nil)))) (fun _ _ => rfl)))))
  (sds_one (sd_expr (ed_mt ok_append (ed_var (pv 6)) (ad_cons (ed_tup (ad_cons (ed_callP (ok_law_name Y) rfl hr (by decide) (by rfl) dd0 (ad_cons (ed_var (pv 3)) (ad_cons (ed_add ed_int (ed_var (pv 7))) ad_nil))) (ad_cons (ed_var (pv 11)) (ad_cons (ed_eq hr (ed_callP (ok_law_part Y) rfl hr (by decide) (by rfl) dd0 (ad_cons (ed_var (pv 10)) (ad_cons ed_int (ad_cons ed_int ad_nil)))) ed_int) ad_nil)))) ad_nil) (fun ho ha => pe_bm PySem.F.plainAttrs_list PySem.F.slot_list_append PySem.F.type_list_append mt_append ho ha)))))))))
  (sds_cons (sd_set (ps_set (i := 8) sc_law_program.nd rfl (by first | exact .inl rfl | exact .inr rfl) (ED.pe (ed_lstM ad_nil))))
  (sds_cons (sd_for (ps_for PassesOwn.never rfl (Dn.ID.pi (id_range1 (ad_cons (ed_ix hr (ed_var (pv 5)) ed_int (fun _ _ => rfl)) ad_nil) (fun ha => pi_range1 (by rfl) Y.tb.range ha))) (GD.pg (gd_name (pg_name (i := 7) sc_law_program.nd rfl (by first | exact .inl rfl | exact .inr rfl)))) (SDs.ps (sds_cons (sd_set (ps_set (i := 10) sc_law_program.nd rfl (by first | exact .inl rfl | exact .inr rfl) (ED.pe (ed_callP (ok_law_cell Y) rfl hr (by decide) (by rfl) dd0 (ad_cons (ed_var (pv 0)) (ad_cons (ed_add (ed_add (ed_var (pv 1)) ed_int) (ed_var (pv 7))) ad_nil))))))
  (sds_one (sd_expr (ed_mt ok_append (ed_var (pv 8)) (ad_cons (ed_tup (ad_cons (ed_callP (ok_law_name Y) rfl hr (by decide) (by rfl) dd0 (ad_cons (ed_var (pv 3)) (ad_cons (ed_add ed_int (ed_var (pv 7))) ad_nil))) (ad_cons (ed_add ed_int (ed_callP (ok_law_part Y) rfl hr (by decide) (by rfl) dd0 (ad_cons (ed_var (pv 10)) (ad_cons ed_int (ad_cons ed_int ad_nil))))) (ad_cons (ed_eq hr (ed_callP (ok_law_part Y) rfl hr (by decide) (by rfl) dd0 (ad_cons (ed_var (pv 10)) (ad_cons ed_int (ad_cons ed_int ad_nil)))) ed_int) ad_nil)))) ad_nil) (fun ho ha => pe_bm PySem.F.plainAttrs_list PySem.F.slot_list_append PySem.F.type_list_append mt_append ho ha))))))))
  (sds_cons (sd_setLc (i := 9) (ps_setLc (own := [("_law_k", 7)]) rfl sc_law_program.nd rfl rfl rfl (Dn.ID.pi (id_range1 (ad_cons (ed_var (pv 4)) ad_nil) (fun ha => pi_range1 (by rfl) Y.tb.range ha))) (blkOk_by (by rfl)) (fun _ _ _ _ _ => (pg_name (i := 7) sc_law_program.nd rfl (by first | exact .inl rfl | exact .inr rfl))) (fun _ _ _ _ _ => pts_nil) (fun _ _ _ _ _ => (ED.pe (ed_callP (ok_law_row Y) rfl hr (by decide) (by rfl) dd0 (ad_cons (ed_callP (ok_law_cell Y) rfl hr (by decide) (by rfl) dd0 (ad_cons (ed_var (pv 0)) (ad_cons (ed_add (ed_add (ed_var (pv 1)) ed_int) (ed_var (pv 7))) ad_nil))) (ad_cons (ed_var (pv 3)) (ad_cons (ed_var (pv 4)) ad_nil))))))) (gw_name (by decide)) yes_of)
  (sds_one (sd_ret (ed_tup (ad_cons (ed_prim (fun ha => pe_callTy (x := "tuple") call_tupAll (by rfl) Y.tb.tuple boot_tuple ha) ok_tuple (ad_cons (ed_var (pv 6)) ad_nil)) (ad_cons (ed_prim (fun ha => pe_callTy (x := "tuple") call_tupAll (by rfl) Y.tb.tuple boot_tuple ha) ok_tuple (ad_cons (ed_var (pv 8)) ad_nil)) (ad_cons (ed_prim (fun ha => pe_callTy (x := "tuple") call_tupAll (by rfl) Y.tb.tuple boot_tuple ha) ok_tuple (ad_cons (ed_var (pv 9)) ad_nil)) ad_nil)))))))))))))))))
theorem ok_law_program (Y : Fx K mg) : FnC P w K mg base "_law_program" 5 ["_law_script", "_law_at"] [] F_law_program := by
  obtain ⟨fd, FD⟩ := Y.c.def_ 24 (d := d_law_program) rfl
  exact FnC.of FD (Y.glo 24) (ok_law_program_fn FD Y) fun _ _ _ _ _ _ us hl => match us, hl with | [_, _], _ => rfl
theorem sc_law_text : FnScope ["_law_program_here", "_law_lines", "_law_goals", "_law_k", "_law_name_here", "_law_size", "_law_twin", "_law_row_here", "_law_start"] ["_law_program_here"] (defScope s_law_text) := ⟨rfl, rfl, rfl, by decide +kernel, rfl, by decide +kernel, by decide +kernel⟩
theorem ok_law_text_fn {f : Addr} {fd : FuncData} (FD : FunD K d_law_text.name d_law_text.qual d_law_text.params d_law_text.body d_law_text.scope (He.DefD.dvs K d_law_text) (He.DefD.kws K d_law_text) f fd) (Y : Fx K mg) : FnOk P w K mg base CX0 2 f fd ["_law_program_here"] (spS K 1 F_law_text) := by
  refine fn_ok FD sc_law_text fun cdv A outer s H E hr => ?_
  exact (sds_cons (sd_setLcM (i := 1) (ps_setLc (own := [("_law_name_here", 4), ("_law_start", 8), ("_law_twin", 6)]) rfl sc_law_text.nd rfl rfl rfl (Dn.ID.pi (id_seq (ed_ix hr (ed_var (pv 0)) ed_int (fun _ _ => rfl)))) (blkOk_by (by rfl)) (fun _ _ _ _ _ => (pg_tup rfl (pgs_cons (pg_name (i := 4) sc_law_text.nd rfl (by first | exact .inl rfl | exact .inr rfl)) (pgs_cons (pg_name (i := 8) sc_law_text.nd rfl (by first | exact .inl rfl | exact .inr rfl)) (pgs_cons (pg_name (i := 6) sc_law_text.nd rfl (by first | exact .inl rfl | exact .inr rfl)) pgs_nil))))) (fun _ _ _ _ _ => pts_nil) (fun _ _ _ _ _ => (ED.pe (ed_add (ed_add (ed_add (ed_add (ed_ix hr (ed_lst (ad_cons ed_str (ad_cons ed_str ad_nil))) (ed_prim (fun ha => pe_callTy (x := "int") call_intAll (by rfl) Y.tb.int boot_int ha) ok_int (ad_cons (ed_var (pv 6)) ad_nil)) (fun _ _ => rfl)) ed_str) (ed_var (pv 4))) ed_str) (ed_prim (fun ha => pe_callTy (x := "str") call_strAll (by rfl) Y.tb.str boot_str ha) ok_str (ad_cons (ed_var (pv 8)) ad_nil)))))) (gw_tup (gws_cons (gw_name (by decide)) (gws_cons (gw_name (by decide)) (gws_cons (gw_name (by decide)) gws_nil)))) yes_of)
  (sds_cons (sd_for (ps_for PassesOwn.never rfl (Dn.ID.pi (id_seq (ed_ix hr (ed_var (pv 0)) ed_int (fun _ _ => rfl)))) (GD.pg (gd_t rfl (gds_c (gd_name (pg_name (i := 4) sc_law_text.nd rfl (by first | exact .inl rfl | exact .inr rfl))) (gds_c (gd_name (pg_name (i := 5) sc_law_text.nd rfl (by first | exact .inl rfl | exact .inr rfl))) (gds_c (gd_name (pg_name (i := 6) sc_law_text.nd rfl (by first | exact .inl rfl | exact .inr rfl))) gds_nil))))) (SDs.ps (sds_one (sd_expr (ed_mt ok_append (ed_var (pv 1)) (ad_cons (ed_add (ed_add (ed_add (ed_add (ed_ix hr (ed_lst (ad_cons ed_str (ad_cons ed_str ad_nil))) (ed_prim (fun ha => pe_callTy (x := "int") call_intAll (by rfl) Y.tb.int boot_int ha) ok_int (ad_cons (ed_var (pv 6)) ad_nil)) (fun _ _ => rfl)) ed_str) (ed_var (pv 4))) ed_str) (ed_prim (fun ha => pe_callTy (x := "str") call_strAll (by rfl) Y.tb.str boot_str ha) ok_str (ad_cons (ed_var (pv 5)) ad_nil))) ad_nil) (fun ho ha => pe_bm PySem.F.plainAttrs_list PySem.F.slot_list_append PySem.F.type_list_append mt_append ho ha)))))))
  (sds_cons (sd_setLc (i := 2) (ps_setLc (own := [("_law_row_here", 7)]) rfl sc_law_text.nd rfl rfl rfl (Dn.ID.pi (id_seq (ed_ix hr (ed_var (pv 0)) ed_int (fun _ _ => rfl)))) (blkOk_by (by rfl)) (fun _ _ _ _ _ => (pg_name (i := 7) sc_law_text.nd rfl (by first | exact .inl rfl | exact .inr rfl))) (fun _ _ _ _ _ => (pts_one (TD.pt (TDW.td (tw_or (td_eq hr (ed_ix hr (ed_var (pv 7)) ed_int (fun _ _ => rfl)) ed_str) (tw_or1 (td_eq hr (ed_ix hr (ed_var (pv 7)) ed_int (fun _ _ => rfl)) ed_str))))))) (fun _ _ _ _ _ => (ED.pe (ed_ix hr (ed_var (pv 7)) (ed_neg ed_int) (fun _ _ => rfl))))) (gw_name (by decide)) same_of)
  (sds_cons (sd_for (ps_for PassesOwn.never rfl (Dn.ID.pi (id_range1 (ad_cons (ed_add (ed_prim (fun ha => pe_callB (x := "len") call_lenAll (by rfl) Y.tb.len boot_len ha) ok_len (ad_cons (ed_ix hr (ed_var (pv 0)) ed_int (fun _ _ => rfl)) ad_nil)) ed_int) ad_nil) (fun ha => pi_range1 (by rfl) Y.tb.range ha))) (GD.pg (gd_name (pg_name (i := 3) sc_law_text.nd rfl (by first | exact .inl rfl | exact .inr rfl)))) (SDs.ps (sds_cons (sd_if (td_in hr (ed_var (pv 3)) (ed_var (pv 2)) rfl) (sds_one (sd_expr (ed_mt ok_append (ed_var (pv 1)) (ad_cons (ed_add ed_str (ed_prim (fun ha => pe_callTy (x := "str") call_strAll (by rfl) Y.tb.str boot_str ha) ok_str (ad_cons (ed_var (pv 3)) ad_nil))) ad_nil) (fun ho ha => pe_bm PySem.F.plainAttrs_list PySem.F.slot_list_append PySem.F.type_list_append mt_append ho ha)))) sds_nil)
  (sds_one (sd_if (td_lt (ed_var (pv 3)) (ed_prim (fun ha => pe_callB (x := "len") call_lenAll (by rfl) Y.tb.len boot_len ha) ok_len (ad_cons (ed_ix hr (ed_var (pv 0)) ed_int (fun _ _ => rfl)) ad_nil))) (sds_one (sd_expr (ed_mt ok_append (ed_var (pv 1)) (ad_cons (ed_callP (ok_law_line Y) rfl hr (by decide) (by rfl) dd0 (ad_cons (ed_ix hr (ed_ix hr (ed_var (pv 0)) ed_int (fun _ _ => rfl)) (ed_var (pv 3)) (fun _ _ => rfl)) ad_nil)) ad_nil) (fun ho ha => pe_bm PySem.F.plainAttrs_list PySem.F.slot_list_append PySem.F.type_list_append mt_append ho ha)))) sds_nil))))))
  (sds_one (sd_ret (ed_m1 ok_join ed_str (ed_var (pv 1)) (fun ho hb => pe_join ho hb))))))))
theorem ok_law_text (Y : Fx K mg) : FnC P w K mg base "_law_text" 2 ["_law_program_here"] [] F_law_text := by
  obtain ⟨fd, FD⟩ := Y.c.def_ 25 (d := d_law_text) rfl
  exact FnC.of FD (Y.glo 25) (ok_law_text_fn FD Y) fun _ _ _ _ _ _ us hl => match us, hl with | [_], _ => rfl
theorem sc_law_alike : FnScope ["_law_found", "_law_due", "_law_k"] ["_law_found", "_law_due"] (defScope s_law_alike) := ⟨rfl, rfl, rfl, by decide +kernel, rfl, by decide +kernel, by decide +kernel⟩
theorem ok_law_alike_fn0 {f : Addr} {fd : FuncData} (FD : FunD K d_law_alike.name d_law_alike.qual d_law_alike.params d_law_alike.body d_law_alike.scope (He.DefD.dvs K d_law_alike) (He.DefD.kws K d_law_alike) f fd) (Y : Fx K mg) : FnOk P w K mg base CX0 1 f fd ["_law_found", "_law_due"] (spS K 2 (runF 2 3 (br_law_alike 0))) := by
  refine fn_ok FD sc_law_alike fun cdv A outer s H E hr => ?_
  exact SDs.none
theorem ok_law_alike_fnS {k : Nat} {bR : DS} (OK : FnC P w K mg base "_law_alike" k ["_law_found", "_law_due"] [] (runF 2 3 bR)) {f : Addr} {fd : FuncData} (FD : FunD K d_law_alike.name d_law_alike.qual d_law_alike.params d_law_alike.body d_law_alike.scope (He.DefD.dvs K d_law_alike) (He.DefD.kws K d_law_alike) f fd) (Y : Fx K mg) : FnOk P w K mg base CX0 (k + 1) f fd ["_law_found", "_law_due"] (spS K 2 (runF 2 3 (b_law_alike bR))) := by
  refine fn_ok FD sc_law_alike fun cdv A outer s H E hr => ?_
  exact (sds_cons (sd_if (td_val (e_isi (T7 := .tuple) Y.tb Y.tb.tuple (by decide) (by rfl) (by rfl) boot_tuple (ed_var (pv 1)))) (sds_cons (sd_if (TDW.td (tw_or (td_not (td_val (e_isi (T7 := .tuple) Y.tb Y.tb.tuple (by decide) (by rfl) (by rfl) boot_tuple (ed_var (pv 0))))) (tw_or1 (td_ne hr (ed_prim (fun ha => pe_callB (x := "len") call_lenAll (by rfl) Y.tb.len boot_len ha) ok_len (ad_cons (ed_var (pv 0)) ad_nil)) (ed_prim (fun ha => pe_callB (x := "len") call_lenAll (by rfl) Y.tb.len boot_len ha) ok_len (ad_cons (ed_var (pv 1)) ad_nil)))))) (sds_one (sd_ret ed_bl)) sds_nil)
  (sds_one (sd_ret (ed_prim (fun ha => pe_callB (x := "all") (cr_all rfl) (by rfl) Y.tb.all boot_all ha) ok_all (ad_cons (ed_lc (pe_lc (own := [("_law_k", 2)]) rfl sc_law_alike.nd (Dn.ID.pi (id_range1 (ad_cons (ed_prim (fun ha => pe_callB (x := "len") call_lenAll (by rfl) Y.tb.len boot_len ha) ok_len (ad_cons (ed_var (pv 1)) ad_nil)) ad_nil) (fun ha => pi_range1 (by rfl) Y.tb.range ha))) (blkOk_by (by rfl)) (fun _ _ _ _ _ => (pg_name (i := 2) sc_law_alike.nd rfl (by first | exact .inl rfl | exact .inr rfl))) (fun _ _ _ _ _ => pts_nil) (fun _ _ _ _ _ => (ED.pe (ed_callS OK rfl hr (Nat.le_refl _) (by rfl) dd0 (ad_cons (ed_ix hr (ed_var (pv 0)) (ed_var (pv 2)) (fun _ _ => rfl)) (ad_cons (ed_ix hr (ed_var (pv 1)) (ed_var (pv 2)) (fun _ _ => rfl)) ad_nil)))))) (gw_name (by decide)) yes_of) ad_nil))))) sds_nil)
  (sds_cons (sd_if (td_val (e_isi (T7 := .bool) Y.tb Y.tb.bool (by decide) (by rfl) (by rfl) boot_bool (ed_var (pv 1)))) (sds_one (sd_ret (ed_and (e_isi (T7 := .bool) Y.tb Y.tb.bool (by decide) (by rfl) (by rfl) boot_bool (ed_var (pv 0))) (ed_one (ed_eq hr (ed_var (pv 0)) (ed_var (pv 1))))))) sds_nil)
  (sds_cons (sd_if (td_val (e_isi (T7 := .int) Y.tb Y.tb.int (by decide) (by rfl) (by rfl) boot_int (ed_var (pv 1)))) (sds_one (sd_ret (ed_and (e_isi (T7 := .int) Y.tb Y.tb.int (by decide) (by rfl) (by rfl) boot_int (ed_var (pv 0))) (ed_and (ed_not (e_isi (T7 := .bool) Y.tb Y.tb.bool (by decide) (by rfl) (by rfl) boot_bool (ed_var (pv 0)))) (ed_one (ed_eq hr (ed_var (pv 0)) (ed_var (pv 1)))))))) sds_nil)
  (sds_one (sd_ret (ed_and (e_isi (T7 := .str) Y.tb Y.tb.str (by decide) (by rfl) (by rfl) boot_str (ed_var (pv 0))) (ed_one (ed_eq hr (ed_var (pv 0)) (ed_var (pv 1))))))))))
theorem ok_law_alike_n (Y : Fx K mg) : ∀ n, FnC P w K mg base "_law_alike" (1 + n) ["_law_found", "_law_due"] [] (runF 2 3 (br_law_alike n))
  | 0 => by
    obtain ⟨fd, FD⟩ := Y.c.def_ 26 (d := d_law_alike) rfl
    exact FnC.of FD (Y.glo 26) (ok_law_alike_fn0 FD Y) fun _ _ _ _ _ _ us hl => match us, hl with | [_, _], _ => rfl
  | n + 1 => by
    obtain ⟨fd, FD⟩ := Y.c.def_ 26 (d := d_law_alike) rfl
    exact FnC.of FD (Y.glo 26) (ok_law_alike_fnS (ok_law_alike_n Y n) FD Y) fun _ _ _ _ _ _ us hl => match us, hl with | [_, _], _ => rfl
theorem ok_law_alike (Y : Fx K mg) : FnC P w K mg base "_law_alike" 6 ["_law_found", "_law_due"] [] F_law_alike := ok_law_alike_n Y 5
theorem sc_law_right : FnScope ["_law_program_here", "_law_due", "_law_told"] ["_law_program_here"] (defScope s_law_right) := ⟨rfl, rfl, rfl, by decide +kernel, rfl, by decide +kernel, by decide +kernel⟩
theorem ok_law_right_fn {f : Addr} {fd : FuncData} (FD : FunD K d_law_right.name d_law_right.qual d_law_right.params d_law_right.body d_law_right.scope (He.DefD.dvs K d_law_right) (He.DefD.kws K d_law_right) f fd) (Y : Fx K mg) : FnOk P w K mg base CX0 9 f fd ["_law_program_here"] (spS K 1 F_law_right) := by
  refine fn_ok FD sc_law_right fun cdv A outer s H E hr => ?_
  exact (sds_cons (sd_set (ps_set (i := 1) sc_law_right.nd rfl (by first | exact .inl rfl | exact .inr rfl) (ED.pe (ed_callP (ok_law_text Y) rfl hr (by decide) (by rfl) dd0 (ad_cons (ed_var (pv 0)) ad_nil)))))
  (sds_cons (sd_set (ps_set (i := 2) sc_law_right.nd rfl (by first | exact .inl rfl | exact .inr rfl) (ED.pe (ed_callP (ok_write Y) rfl hr (by decide) (by rfl) dd0 (ad_cons (ed_var (pv 0)) ad_nil)))))
  (sds_one (sd_ret (ed_and (e_isi (T7 := .str) Y.tb Y.tb.str (by decide) (by rfl) (by rfl) boot_str (ed_var (pv 2))) (ed_and (ed_eq hr (ed_var (pv 2)) (ed_var (pv 1))) (ed_one (ed_callP (ok_law_alike Y) rfl hr (by decide) (by rfl) dd0 (ad_cons (ed_callP (ok_read Y) rfl hr (by decide) (by rfl) dd0 (ad_cons (ed_var (pv 1)) ad_nil)) (ad_cons (ed_var (pv 0)) ad_nil))))))))))
theorem ok_law_right (Y : Fx K mg) : FnC P w K mg base "_law_right" 9 ["_law_program_here"] [] F_law_right := by
  obtain ⟨fd, FD⟩ := Y.c.def_ 27 (d := d_law_right) rfl
  exact FnC.of FD (Y.glo 27) (ok_law_right_fn FD Y) fun _ _ _ _ _ _ us hl => match us, hl with | [_], _ => rfl
theorem sc_law : FnScope ["_law_script", "_law_program_here", "_law_other"] ["_law_script"] (defScope s_law) := ⟨rfl, rfl, rfl, by decide +kernel, rfl, by decide +kernel, by decide +kernel⟩
theorem ok_law_fn {f : Addr} {fd : FuncData} (FD : FunD K d_law.name d_law.qual d_law.params d_law.body d_law.scope (He.DefD.dvs K d_law) (He.DefD.kws K d_law) f fd) (Y : Fx K mg) : FnOk P w K mg base CX0 10 f fd ["_law_script"] (spS K 1 F_law) := by
  refine fn_ok FD sc_law fun cdv A outer s H E hr => ?_
  exact (sds_cons (sd_set (ps_set (i := 1) sc_law.nd rfl (by first | exact .inl rfl | exact .inr rfl) (ED.pe (ed_callP (ok_law_program Y) rfl hr (by decide) (by rfl) dd0 (ad_cons (ed_var (pv 0)) (ad_cons ed_int ad_nil))))))
  (sds_cons (sd_set (ps_set (i := 2) sc_law.nd rfl (by first | exact .inl rfl | exact .inr rfl) (ED.pe (ed_callP (ok_law_program Y) rfl hr (by decide) (by rfl) dd0 (ad_cons (ed_var (pv 0)) (ad_cons ed_int ad_nil))))))
  (sds_one (sd_ret (ed_and (ed_callP (ok_law_right Y) rfl hr (by decide) (by rfl) dd0 (ad_cons (ed_var (pv 1)) ad_nil)) (ed_and (ed_callP (ok_law_right Y) rfl hr (by decide) (by rfl) dd0 (ad_cons (ed_var (pv 2)) ad_nil)) (ed_one (ed_callP (ok_law_right Y) rfl hr (by decide) (by rfl) dd0 (ad_cons (ed_var (pv 1)) ad_nil)))))))))
end
end Lk12

namespace Lk12
open PySem PySem.Spec PyProof.Rows L2 Dn
def tx_inw (sg : Str) (c : Nat) : Bool := decide (c ∈ sg.cps.toList)
theorem tx_in_one {c : Nat} {sg : Str} {S : Sto} : pIn true (.str ⟨#[c]⟩) (.str sg) S = some (.bl (!tx_inw sg c), S) := rfl
theorem tx_scan {a : Option DV} {sg : Str} : ∀ (cs : List Nat) (x : Option DV), (cs.all (tx_inw sg) = true ∧ ∃ x', forL (gSet 2) (dIfS (dBin (pIn true) (dVar 2) (dVar 1)) (dRet (dC (.bl false))) dNext) (cs.map fun c => .str ⟨#[c]⟩) [a, some (.str sg), x] [] = some (.nx [a, some (.str sg), x'] [])) ∨
    (cs.all (tx_inw sg) = false ∧ forL (gSet 2) (dIfS (dBin (pIn true) (dVar 2) (dVar 1)) (dRet (dC (.bl false))) dNext) (cs.map fun c => .str ⟨#[c]⟩) [a, some (.str sg), x] [] = some (.rt (.bl false) []))
  | [], x => .inl ⟨rfl, x, rfl⟩
  | c :: cs, x => by
    rw [List.map_cons]
    unfold forL
    by_cases q : tx_inw sg c = true
    · rcases tx_scan (a := a) (sg := sg) cs (some (.str ⟨#[c]⟩)) with ⟨h1, x', h2⟩ | ⟨h1, h2⟩
      · exact .inl ⟨by simp [q, h1], x', by simp [tx_in_one, q, h2]⟩
      · exact .inr ⟨by simp [q, h1], by simp [tx_in_one, q, h2]⟩
    · have q' : tx_inw sg c = false := Bool.eq_false_iff.mpr q
      exact .inr ⟨by simp [q'], by simp [tx_in_one, q']⟩
theorem tx_all_of_eq (w sg : Str) : pureOf F_all_of [.str w, .str sg] = some (.bl (w.cps.toList.all (tx_inw sg))) := by
  refine pureOf_of (S' := []) ?_ rfl
  rcases tx_scan (a := some (.str w)) (sg := sg) w.cps.toList none with ⟨h1, x', h2⟩ | ⟨h1, h2⟩
  · rw [h1]
    simp [F_all_of, b_all_of, runF, h2]
  · rw [h1]
    simp [F_all_of, b_all_of, runF, h2]
theorem tx_name_eq (w : Str) (hl : w.length ≤ 1000) : pureOf F_is_name [.str w] = some (.bl (decide (1 ≤ w.length) && decide (w.length ≤ 6) && w.cps.toList.all (tx_inw abc))) := by
  refine pureOf_of (S' := []) ?_ rfl
  have hz : w.length ≤ 16777216 := by omega
  have e := tx_all_of_eq w abc
  have e' : pureOf F_all_of [.str w, .str "abcdefghijklmnopqrstuvwxyz"] = _ := e
  generalize w.cps.toList.all (tx_inw abc) = al at *
  have h1 : (1 : Int) ≤ w.length ↔ 1 ≤ w.length := by omega
  have h6 : (w.length : Int) ≤ 6 ↔ w.length ≤ 6 := by omega
  by_cases q1 : 1 ≤ w.length
  · by_cases q6 : w.length ≤ 6
    · have z1 : (1 : Int) ≤ w.length := by omega
      have z6 : (w.length : Int) ≤ 6 := by omega
      simp [F_is_name, b_is_name, runF, hz, z1, z6, q1, q6, e', cpL_plain]
    · have z1 : (1 : Int) ≤ w.length := by omega
      have z6 : ¬ (w.length : Int) ≤ 6 := by omega
      simp [F_is_name, b_is_name, runF, hz, z1, z6, q1, q6, e', cpL_plain]
  · have z1 : ¬ (1 : Int) ≤ w.length := by omega
    simp [F_is_name, b_is_name, runF, hz, z1, q1, e', cpL_plain]
def tx_labS : Str := "abcdefghijklmnopqrstuvwxyz0123456789"
theorem tx_lab_cat : ("abcdefghijklmnopqrstuvwxyz" : Str) ++ "0123456789" = "abcdefghijklmnopqrstuvwxyz0123456789" := by decide +kernel
theorem tx_label_eq (w : Str) (hl : w.length ≤ 1000) : pureOf F_is_label [.str w] = some (.bl (decide (1 ≤ w.length) && decide (w.length ≤ 8) && w.cps.toList.all (tx_inw tx_labS))) := by
  refine pureOf_of (S' := []) ?_ rfl
  have hz : w.length ≤ 16777216 := by omega
  have e' : pureOf F_all_of [.str w, .str "abcdefghijklmnopqrstuvwxyz0123456789"] = _ := tx_all_of_eq w tx_labS
  generalize w.cps.toList.all (tx_inw tx_labS) = al at *
  have pa : ∀ {S : Sto}, pAdd (.str "abcdefghijklmnopqrstuvwxyz") (.str "0123456789") S = some (.str "abcdefghijklmnopqrstuvwxyz0123456789", S) := fun {S} => by
    rw [v_addS, tx_lab_cat, if_pos (by decide +kernel)]
  by_cases q1 : 1 ≤ w.length
  · by_cases q6 : w.length ≤ 8
    · have z1 : (1 : Int) ≤ w.length := by omega
      have z6 : (w.length : Int) ≤ 8 := by omega
      simp [-v_addS, F_is_label, b_is_label, runF, hz, z1, z6, q1, q6, e', cpL_plain, pa]
    · have z1 : (1 : Int) ≤ w.length := by omega
      have z6 : ¬ (w.length : Int) ≤ 8 := by omega
      simp [-v_addS, F_is_label, b_is_label, runF, hz, z1, z6, q1, q6, e', cpL_plain, pa]
  · have z1 : ¬ (1 : Int) ≤ w.length := by omega
    simp [-v_addS, F_is_label, b_is_label, runF, hz, z1, q1, e', cpL_plain, pa]
/-! ### values -/
def tx_fig : Str := "0123456789"
theorem tx_fig_in {c : Nat} : tx_inw tx_fig c = true ↔ 48 ≤ c ∧ c ≤ 57 := by
  have e : tx_fig.cps.toList = [48, 49, 50, 51, 52, 53, 54, 55, 56, 57] := by decide +kernel
  unfold tx_inw
  rw [e, decide_eq_true_eq]
  simp only [List.mem_cons, List.not_mem_nil, or_false]
  omega
theorem tx_figs {cs : List Nat} (h : cs.all (tx_inw tx_fig) = true) : NumText.AllDigits cs := fun c hc => tx_fig_in.mp (List.all_eq_true.mp h c hc)
theorem tx_fold_low : ∀ (cs : List Nat) (t : Nat), t * 10 ^ cs.length ≤ cs.foldl (fun acc c => acc * 10 + (c - 48)) t
  | [], t => by simp
  | c :: cs, t => by
    rw [List.foldl_cons, List.length_cons, Nat.pow_succ]
    refine Nat.le_trans ?_ (tx_fold_low cs _)
    have : t * (10 ^ cs.length * 10) = (t * 10) * 10 ^ cs.length := by rw [Nat.mul_comm (10 ^ cs.length) 10, Nat.mul_assoc]
    rw [this]
    exact Nat.mul_le_mul_right _ (Nat.le_add_right _ _)
/-- the value of a word, or none -/
def tx_val (w : Str) : DV := match w.cps.toList with
  | [] => .non
  | c :: cs => if (c :: cs).all (tx_inw tx_fig) = true ∧ ¬ (one1 c = "0" ∧ cs ≠ []) ∧ NumText.digitsVal (c :: cs) < 1099511627776 then .int (NumText.digitsVal (c :: cs) : Nat) else .non
theorem tx_ix0 {w : Str} {c : Nat} {cs : List Nat} (h : w.cps.toList = c :: cs) (hl : w.length ≤ 1000) {S : Sto} : pIx (.str w) (.int 0) S = some (.str (one1 c), S) := by
  refine Dn.ix_str (size_ok (by omega)) ?_
  unfold atI
  rw [h, show ixN (c :: cs).length 0 = some 0 from ixN_nat (k := 0) (by simp)]
  rfl
theorem tx_w_len {w : Str} {cs : List Nat} (h : w.cps.toList = cs) : w.length = cs.length := by
  rw [← h]
  show w.cps.size = _
  simp
theorem tx_int_eq {w : Str} (h : NumText.AllDigits w.cps.toList) (hn : w.cps.toList ≠ []) (hl : w.length ≤ 600) {S : Sto} : pInt [.str w] S = some (.int (NumText.digitsVal w.cps.toList : Nat), S) := by
  have e := PySem.intText_digits h hn (by omega)
  show (if w.length ≤ 640 then (match PySem.intText? w with | some n => some (DV.int n, S) | none => none) else none) = _
  rw [if_pos (by omega), e]
theorem tx_value_of_eq (w : Str) (hl : w.length ≤ 600) : pureOf F_value_of [.str w] = some (tx_val w) := by
  have hz : w.length ≤ 16777216 := by omega
  have ea : pureOf F_all_of [.str w, .str "0123456789"] = some (.bl (w.cps.toList.all (tx_inw tx_fig))) := tx_all_of_eq w tx_fig
  cases hc : w.cps.toList with
  | nil =>
    have h0 : w.length = 0 := tx_w_len hc
    have hv : tx_val w = .non := by
      unfold tx_val
      rw [hc]
    rw [hv]
    refine pureOf_of (S' := []) ?_ rfl
    simp [F_value_of, b_value_of, runF, h0]
  | cons c cs =>
    have hlen : w.length = cs.length + 1 := tx_w_len hc
    have i0 := fun S => tx_ix0 (S := S) hc (by omega)
    have z1 : (1 : Int) ≤ w.length := by omega
    have hv : tx_val w = if (c :: cs).all (tx_inw tx_fig) = true ∧ ¬ (one1 c = "0" ∧ cs ≠ []) ∧ NumText.digitsVal (c :: cs) < 1099511627776 then .int (NumText.digitsVal (c :: cs) : Nat) else .non := by
      unfold tx_val
      rw [hc]
    rw [hc] at ea
    by_cases hf : (c :: cs).all (tx_inw tx_fig) = true
    · have hd := tx_figs hf
      rw [hf] at ea
      by_cases h13 : cs.length + 1 ≤ 13
      · have z13 : (w.length : Int) ≤ 13 := by omega
        have pi := fun S => tx_int_eq (S := S) (w := w) (by rw [hc]; exact hd) (by rw [hc]; simp) hl
        rw [hc] at pi
        generalize NumText.digitsVal (c :: cs) = v at *
        by_cases h0 : one1 c = "0"
        · by_cases h1 : cs = []
          · have z2 : ¬ (1 : Int) < w.length := by rw [hlen, h1]; simp
            by_cases hw : v < 1099511627776
            · have hw2 : ¬ (1099511627776 : Int) ≤ (v : Int) := by omega
              rw [hv, if_pos ⟨hf, fun q => q.2 h1, hw⟩]
              generalize (v : Int) = z at *
              refine pureOf_of (S' := []) ?_ rfl
              simp [F_value_of, b_value_of, runF, hz, z1, z13, ea, cpL_plain, i0, h0, z2, pi, hw2]
            · have hw2 : (1099511627776 : Int) ≤ (v : Int) := by omega
              rw [hv, if_neg fun q => hw q.2.2]
              generalize (v : Int) = z at *
              refine pureOf_of (S' := []) ?_ rfl
              simp [F_value_of, b_value_of, runF, hz, z1, z13, ea, cpL_plain, i0, h0, z2, pi, hw2]
          · have z2 : (1 : Int) < w.length := by
              have : 0 < cs.length := List.length_pos_iff.mpr h1
              omega
            rw [hv, if_neg fun q => q.2.1 ⟨h0, h1⟩]
            refine pureOf_of (S' := []) ?_ rfl
            simp [F_value_of, b_value_of, runF, hz, z1, z13, ea, cpL_plain, i0, h0, z2]
        · by_cases hw : v < 1099511627776
          · have hw2 : ¬ (1099511627776 : Int) ≤ (v : Int) := by omega
            rw [hv, if_pos ⟨hf, fun q => h0 q.1, hw⟩]
            generalize (v : Int) = z at *
            refine pureOf_of (S' := []) ?_ rfl
            simp [F_value_of, b_value_of, runF, hz, z1, z13, ea, cpL_plain, i0, h0, pi, hw2]
          · have hw2 : (1099511627776 : Int) ≤ (v : Int) := by omega
            rw [hv, if_neg fun q => hw q.2.2]
            generalize (v : Int) = z at *
            refine pureOf_of (S' := []) ?_ rfl
            simp [F_value_of, b_value_of, runF, hz, z1, z13, ea, cpL_plain, i0, h0, pi, hw2]
      · have z13 : ¬ (w.length : Int) ≤ 13 := by omega
        have hbig : ¬ ((c :: cs).all (tx_inw tx_fig) = true ∧ ¬ (one1 c = "0" ∧ cs ≠ []) ∧ NumText.digitsVal (c :: cs) < 1099511627776) := fun q => by
          have h0 : one1 c ≠ "0" := fun z => q.2.1 ⟨z, fun e => by rw [e] at h13; simp at h13⟩
          have hc1 := hd.head
          have hc2 : c ≠ 48 := fun z => h0 (by rw [z] <;> rfl)
          have h2 := tx_fold_low cs (0 * 10 + (c - 48))
          have h3 : NumText.digitsVal (c :: cs) = cs.foldl (fun acc c => acc * 10 + (c - 48)) (0 * 10 + (c - 48)) := rfl
          have h4 : 10 ^ 13 ≤ 10 ^ cs.length := Nat.pow_le_pow_right (by decide) (by omega)
          have h5 : 1 * 10 ^ cs.length ≤ (0 * 10 + (c - 48)) * 10 ^ cs.length := Nat.mul_le_mul_right _ (by omega)
          have h6 := q.2.2
          rw [h3] at h6
          have h7 : (10 : Nat) ^ 13 = 10000000000000 := by decide
          omega
        rw [hv, if_neg hbig]
        refine pureOf_of (S' := []) ?_ rfl
        simp [F_value_of, b_value_of, runF, hz, z1, z13]
    · have hf' : (c :: cs).all (tx_inw tx_fig) = false := Bool.eq_false_iff.mpr hf
      rw [hf'] at ea
      rw [hv, if_neg fun q => hf q.1]
      refine pureOf_of (S' := []) ?_ rfl
      by_cases h13 : (w.length : Int) ≤ 13
      · simp [F_value_of, b_value_of, runF, hz, z1, h13, ea, cpL_plain]
      · simp [F_value_of, b_value_of, runF, hz, z1, h13]
end Lk12

namespace Lk12
open PySem PySem.Spec PyProof.Rows L2 Dn
/-! ### the texts' words in plain Lean -/
def nameB (w : Str) : Bool := decide (1 ≤ w.length) && decide (w.length ≤ 6) && w.cps.toList.all (tx_inw abc)
def labelB (w : Str) : Bool := decide (1 ≤ w.length) && decide (w.length ≤ 8) && w.cps.toList.all (tx_inw tx_labS)
def atomV (w : Str) : DV := if nameB w then .str w else tx_val w
abbrev nonB : DV → Bool := isNon
def formsV (k : Str) : Str := if k = "load" then "nn" else if k = "store" then "na" else if k = "take" then "nna" else if k = "lay" then "naa" else if k = "hear" then "n" else if k = "say" ∨ k = "end" then "a" else if k = "if" then "al" else if k = "go" then "l" else ""
def partV (w f : Str) : DV := if f = "a" then atomV w else if (f = "n" ∧ nameB w = true) ∨ (f = "l" ∧ labelB w = true) then .str w else .non
def signL : List Str := ["+", "-", "*", "<", "=", "&", "|", "^"]
def wAt (ws : List Str) (i : Nat) : Str := ws.getD i ""
def givenV (ws : List Str) : DV :=
  if nameB (wAt ws 0) = false ∨ nonB (atomV (wAt ws 2)) = true then .non
  else if ws.length = 3 then .tup [.str "copy", .str (wAt ws 0), atomV (wAt ws 2)]
  else if ws.length ≠ 5 ∨ wAt ws 3 ∉ signL ∨ nonB (atomV (wAt ws 4)) = true then .non
  else .tup [.str "op", .str (wAt ws 0), .str (wAt ws 3), atomV (wAt ws 2), atomV (wAt ws 4)]
def partsV (ws : List Str) (fs : Str) : List DV := (List.zip ws.tail fs.cps.toList).map fun p => partV p.1 ⟨#[p.2]⟩
def rowV (ws : List Str) : DV :=
  if 2 < ws.length ∧ wAt ws 1 = "=" then givenV ws
  else if formsV (wAt ws 0) = "" ∨ ws.length ≠ (formsV (wAt ws 0)).length + 1 then .non
  else if (partsV ws (formsV (wAt ws 0))).any nonB = true then .non
  else .tup (.str (wAt ws 0) :: partsV ws (formsV (wAt ws 0)))
def toldV (ws : List Str) : DV :=
  if ws.length ≠ 3 ∨ nameB (wAt ws 1) = false ∨ nonB (tx_val (wAt ws 2)) = true then .non
  else match tx_val (wAt ws 2) with
    | .int n => if (wAt ws 0 = "shelf" ∨ wAt ws 0 = "twins") ∧ ¬ (1 ≤ n ∧ n ≤ 8) then .non else .tup [.str (wAt ws 1), .int n, .bl (decide (wAt ws 0 = "twin" ∨ wAt ws 0 = "twins"))]
    | _ => .non
def itemV (ws : List Str) (begun : Bool) : DV :=
  if (2 < ws.length ∧ wAt ws 1 = "=") ∨ wAt ws 0 ∉ (["cell", "twin", "shelf", "twins", "at"] : List Str) then
    if nonB (rowV ws) = true then .non else .tup [.str "row", rowV ws]
  else if wAt ws 0 = "at" then
    if ws.length ≠ 2 ∨ labelB (wAt ws 1) = false then .non else .tup [.str "label", .str (wAt ws 1)]
  else if nonB (toldV ws) = true ∨ begun = true then .non
  else if wAt ws 0 = "cell" ∨ wAt ws 0 = "twin" then .tup [.str "cell", toldV ws]
  else .tup [.str "shelf", toldV ws]
/-! ### the walks -/
theorem tx_val_cases (w : Str) : (∃ n : Nat, tx_val w = .int n) ∨ tx_val w = .non := by
  unfold tx_val
  split
  · exact .inr rfl
  · split
    · exact .inl ⟨_, rfl⟩
    · exact .inr rfl
theorem atomV_cases (w : Str) : (∃ s, atomV w = .str s) ∨ (∃ n : Nat, atomV w = .int n) ∨ atomV w = .non := by
  unfold atomV
  split
  · exact .inl ⟨_, rfl⟩
  · exact .inr (tx_val_cases w)
theorem tx_atom_eq (w : Str) (hl : w.length ≤ 600) : pureOf F_atom_of [.str w] = some (atomV w) := by
  have e1 := tx_name_eq w (by omega)
  have e2 := tx_value_of_eq w hl
  have e1 : pureOf F_is_name [.str w] = some (.bl (nameB w)) := e1
  have hp : plainL [DV.str w] = true := rfl
  have c1 : dPrim (cP (pureOf F_is_name) []) (aCons (dVar 0) aNil) [some (.str w)] [] = some (.bl (nameB w), []) := callPP (args1 rfl) hp e1
  have c2 : dPrim (cP (pureOf F_value_of) []) (aCons (dVar 0) aNil) [some (.str w)] [] = some (tx_val w, []) := callPP (args1 rfl) hp e2
  unfold atomV
  by_cases q : nameB w = true
  · rw [q] at c1
    rw [if_pos q]
    exact pureOf_of (S' := []) (run_rt rfl (seq_rt ((ifS_t c1).trans (ret_of rfl)))) rfl
  · rw [Bool.eq_false_iff.mpr q] at c1
    rw [if_neg q]
    refine pureOf_of (S' := []) (run_rt rfl ((seq_nx ((ifS_f c1).trans rfl)).trans (ret_of c2))) ?_
    rcases tx_val_cases w with ⟨n, h⟩ | h <;> rw [h] <;> rfl
theorem eqS_of {f g : DE} {ρ : Ev} {S : Sto} {a b : Str} (h1 : f ρ S = some (.str a, S)) (h2 : g ρ S = some (.str b, S)) : dBin (pEq false) f g ρ S = some (.bl (decide (a = b)), S) := bin_of h1 h2 v_eqS
theorem tx_forms_eq (k : Str) : pureOf F_forms_of [.str k] = some (.str (formsV k)) := by
  refine pureOf_of (S' := []) (run_rt rfl ?_) rfl
  have e : ∀ s : Str, dBin (pEq false) (dVar 0) (dC (.str s)) [some (.str k)] [] = some (.bl (decide (k = s)), []) := fun s => eqS_of rfl rfl
  have st : ∀ {c : DE} {p : Prop} [Decidable p] {s t : Str} {n : DS}, c [some (.str k)] [] = some (.bl (decide p), []) → n [some (.str k)] [] = some (.rt (.str t) []) →
      dSeq (dIfS c (dRet (dC (.str s))) dNext) n [some (.str k)] [] = some (.rt (.str (if p then s else t)) []) := fun {c p _ s t n} h1 h2 => by
    by_cases q : p
    · rw [decide_eq_true q] at h1
      rw [if_pos q]
      exact seq_rt ((ifS_t h1).trans rfl)
    · rw [decide_eq_false q] at h1
      rw [if_neg q]
      exact (seq_nx ((ifS_f h1).trans rfl)).trans h2
  have e2 : dOr (dBin (pEq false) (dVar 0) (dC (.str "say"))) (dBin (pEq false) (dVar 0) (dC (.str "end"))) [some (.str k)] [] = some (.bl (decide (k = "say" ∨ k = "end")), []) := by
    rw [or_b (e "say") (e "end"), Bool.decide_or]
  exact st (e _) (st (e _) (st (e _) (st (e _) (st (e _) (st e2 (st (e _) (st (e _) rfl)))))))
theorem tx_part_eq (w f : Str) (hl : w.length ≤ 600) : pureOf F_part_of [.str w, .str f] = some (partV w f) := by
  have hp : plainL [DV.str w] = true := rfl
  let ρ : Ev := [some (.str w), some (.str f)]
  have e : ∀ s : Str, dBin (pEq false) (dVar 1) (dC (.str s)) ρ [] = some (.bl (decide (f = s)), []) := fun s => eqS_of rfl rfl
  have cn : dPrim (cP (pureOf F_is_name) []) (aCons (dVar 0) aNil) ρ [] = some (.bl (nameB w), []) := callPP (args1 rfl) hp (tx_name_eq w (by omega))
  have cl : dPrim (cP (pureOf F_is_label) []) (aCons (dVar 0) aNil) ρ [] = some (.bl (labelB w), []) := callPP (args1 rfl) hp (tx_label_eq w (by omega))
  have ca : dPrim (cP (pureOf F_atom_of) []) (aCons (dVar 0) aNil) ρ [] = some (atomV w, []) := callPP (args1 rfl) hp (tx_atom_eq w hl)
  have co := or_b (and_b (e "n") cn) (and_b (e "l") cl)
  have q2 : (decide (f = "n") && nameB w || decide (f = "l") && labelB w) = decide ((f = "n" ∧ nameB w = true) ∨ (f = "l" ∧ labelB w = true)) := by
    rw [Bool.decide_or, Bool.decide_and, Bool.decide_and, Bool.decide_eq_true, Bool.decide_eq_true]
  rw [q2] at co
  unfold partV
  have ea := e "a"
  by_cases q : f = "a"
  · rw [decide_eq_true q] at ea
    rw [if_pos q]
    refine pureOf_of (S' := []) (run_rt rfl (seq_rt ((ifS_t ea).trans (ret_of ca)))) ?_
    rcases atomV_cases w with ⟨s, h⟩ | ⟨n, h⟩ | h <;> rw [h] <;> rfl
  · rw [decide_eq_false q] at ea
    rw [if_neg q]
    by_cases z : (f = "n" ∧ nameB w = true) ∨ (f = "l" ∧ labelB w = true)
    · rw [decide_eq_true z] at co
      rw [if_pos z]
      exact pureOf_of (S' := []) (run_rt rfl ((seq_nx ((ifS_f ea).trans rfl)).trans (seq_rt ((ifS_t co).trans rfl)))) rfl
    · rw [decide_eq_false z] at co
      rw [if_neg z]
      exact pureOf_of (S' := []) (run_rt rfl ((seq_nx ((ifS_f ea).trans rfl)).trans ((seq_nx ((ifS_f co).trans rfl)).trans rfl))) rfl
end Lk12

namespace Lk12
open PySem PySem.Spec PyProof.Rows L2 Dn
/-! ### rows of a text -/
section
variable {ρ : Ev} {S : Sto} {ws : List Str} {f g : DE}
theorem tx_ix {k : LK} {i : Nat} (hi : i < ws.length) : pIx (.lst k (ws.map .str)) (.int (i : Nat)) S = some (.str (wAt ws i), S) := by
  refine Dn.ix_seq (atD_nat (k := i) ?_)
  rw [List.getElem?_map, wAt, List.getD_eq_getElem?_getD, List.getElem?_eq_getElem hi]
  rfl
abbrev wsD (ws : List Str) : DV := .lst .own (ws.map .str)
theorem tx_at (i : Nat) (h : f ρ S = some (wsD ws, S)) (hi : i < ws.length) : dBin pIx f (dC (.int (i : Nat))) ρ S = some (.str (wAt ws i), S) := bin_of h rfl (tx_ix hi)
theorem tx_len (h : f ρ S = some (wsD ws, S)) : dPrim pLen (aCons f aNil) ρ S = some (.int (ws.length : Nat), S) := by
  have := lenL_of h
  rw [List.length_map] at this
  exact this
theorem eqN_of {a b : Nat} (h1 : f ρ S = some (.int (a : Nat), S)) (h2 : g ρ S = some (.int (b : Nat), S)) : dBin (pEq false) f g ρ S = some (.bl (decide (a = b)), S) := bin_of h1 h2 (by
  rw [v_eqI]
  congr 3
  exact decide_eq_decide.mpr (by omega))
theorem neN_of {a b : Nat} (h1 : f ρ S = some (.int (a : Nat), S)) (h2 : g ρ S = some (.int (b : Nat), S)) : dBin (pEq true) f g ρ S = some (.bl (decide (a ≠ b)), S) := bin_of h1 h2 (by
  rw [v_neI]
  congr 3
  by_cases q : a = b
  · rw [decide_eq_true (show (a : Int) = b by omega), decide_eq_false (fun z : a ≠ b => z q)]; rfl
  · rw [decide_eq_false (show ¬ (a : Int) = b by omega), decide_eq_true q]; rfl)
theorem gtN_of {a b : Nat} (h1 : f ρ S = some (.int (a : Nat), S)) (h2 : g ρ S = some (.int (b : Nat), S)) : dBin pGt f g ρ S = some (.bl (decide (b < a)), S) := bin_of h1 h2 (by
  rw [v_gt]
  congr 3
  exact decide_eq_decide.mpr (by omega))
theorem nonB_of {d : DV} (h1 : f ρ S = some (d, S)) : dBin (pIs false) f (dC .non) ρ S = some (.bl (nonB d), S) := bin_of h1 rfl rfl
theorem or_p {p q : Prop} [Decidable p] [Decidable q] (h1 : f ρ S = some (.bl (decide p), S)) (h2 : ¬ p → g ρ S = some (.bl (decide q), S)) : dOr f g ρ S = some (.bl (decide (p ∨ q)), S) := by
  by_cases h : p
  · rw [decide_eq_true h] at h1
    rw [decide_eq_true (Or.inl h)]
    exact or_t h1
  · rw [decide_eq_false h] at h1
    rw [or_f h1 (h2 h)]
    congr 3
    exact decide_eq_decide.mpr ⟨.inr, fun z => z.resolve_left h⟩
theorem and_p {p q : Prop} [Decidable p] [Decidable q] (h1 : f ρ S = some (.bl (decide p), S)) (h2 : p → g ρ S = some (.bl (decide q), S)) : dAnd f g ρ S = some (.bl (decide (p ∧ q)), S) := by
  by_cases h : p
  · rw [decide_eq_true h] at h1
    rw [and_t h1 (h2 h)]
    congr 3
    exact decide_eq_decide.mpr ⟨fun z => ⟨h, z⟩, fun z => z.2⟩
  · rw [decide_eq_false h] at h1
    rw [decide_eq_false fun z => h z.1]
    exact and_f h1
theorem bl_p {b : Bool} (h : f ρ S = some (.bl b, S)) : f ρ S = some (.bl (decide (b = true)), S) := by rw [Bool.decide_eq_true]; exact h
theorem not_p {b : Bool} (h : f ρ S = some (.bl b, S)) : dNot f ρ S = some (.bl (decide (b = false)), S) := by
  rw [not_of h]
  cases b <;> rfl
theorem ifS_p {p : Prop} [Decidable p] {s t : DS} (h : f ρ S = some (.bl (decide p), S)) : dIfS f s t ρ S = (if p then s ρ S else t ρ S) := by
  by_cases q : p
  · rw [decide_eq_true q] at h
    rw [if_pos q]
    exact ifS_t h
  · rw [decide_eq_false q] at h
    rw [if_neg q]
    exact ifS_f h
/-- a row that leaves, else goes on -/
theorem ret_p {p : Prop} [Decidable p] {r n : DS} {a b : DV} (h : f ρ S = some (.bl (decide p), S)) (h1 : p → r ρ S = some (.rt a S)) (h2 : ¬ p → n ρ S = some (.rt b S)) : dSeq (dIfS f r dNext) n ρ S = some (.rt (if p then a else b) S) := by
  by_cases q : p
  · rw [if_pos q]
    refine seq_rt ?_
    rw [ifS_p h, if_pos q, h1 q]
  · rw [if_neg q]
    refine (seq_nx (S' := S) (ρ' := ρ) ?_).trans (h2 q)
    rw [ifS_p h, if_neg q]
    rfl
end
structure WsOk (ws : List Str) : Prop where
  n : ws.length ≤ 600
  l : ∀ w ∈ ws, w.length ≤ 600
  z : 0 < ws.length
section
variable {ρ : Ev} {S : Sto} {ws : List Str} {f g : DE}
theorem WsOk.at (W : WsOk ws) {i : Nat} (hi : i < ws.length) : (wAt ws i).length ≤ 600 := by
  refine W.l _ ?_
  rw [wAt, List.getD_eq_getElem?_getD, List.getElem?_eq_getElem hi]
  exact List.getElem_mem _
theorem tx_cname (W : WsOk ws) (i : Nat) (h : f ρ S = some (wsD ws, S)) (hi : i < ws.length) : dPrim (cP (pureOf F_is_name) []) (aCons (dBin pIx f (dC (.int (i : Nat)))) aNil) ρ S = some (.bl (nameB (wAt ws i)), S) :=
  callPP (args1 (tx_at i h hi)) rfl (tx_name_eq _ (by have := W.at hi; omega))
theorem tx_clabel (W : WsOk ws) (i : Nat) (h : f ρ S = some (wsD ws, S)) (hi : i < ws.length) : dPrim (cP (pureOf F_is_label) []) (aCons (dBin pIx f (dC (.int (i : Nat)))) aNil) ρ S = some (.bl (labelB (wAt ws i)), S) :=
  callPP (args1 (tx_at i h hi)) rfl (tx_label_eq _ (by have := W.at hi; omega))
theorem tx_catom (W : WsOk ws) (i : Nat) (h : f ρ S = some (wsD ws, S)) (hi : i < ws.length) : dPrim (cP (pureOf F_atom_of) []) (aCons (dBin pIx f (dC (.int (i : Nat)))) aNil) ρ S = some (atomV (wAt ws i), S) :=
  callPP (args1 (tx_at i h hi)) rfl (tx_atom_eq _ (W.at hi))
theorem tx_cval (W : WsOk ws) (i : Nat) (h : f ρ S = some (wsD ws, S)) (hi : i < ws.length) : dPrim (cP (pureOf F_value_of) []) (aCons (dBin pIx f (dC (.int (i : Nat)))) aNil) ρ S = some (tx_val (wAt ws i), S) :=
  callPP (args1 (tx_at i h hi)) rfl (tx_value_of_eq _ (W.at hi))
theorem tx_eqAt (i : Nat) (s : Str) (h : f ρ S = some (wsD ws, S)) (hi : i < ws.length) : dBin (pEq false) (dBin pIx f (dC (.int (i : Nat)))) (dC (.str s)) ρ S = some (.bl (decide (wAt ws i = s)), S) := eqS_of (tx_at i h hi) rfl
end
theorem tx_inD_strs (w : Str) : ∀ l : List Str, inD (.str w) (l.map .str) = decide (w ∈ l)
  | [] => rfl
  | a :: l => by
    have ih := tx_inD_strs w l
    unfold inD at *
    rw [List.map_cons, List.any_cons, ih]
    show ((a == w) || decide (w ∈ l)) = _
    by_cases q : a = w
    · rw [q]; simp
    · have q' : ¬ w = a := fun z => q z.symm
      simp [q, q']
theorem flD_strs (l : List Str) : (l.map DV.str).all flD = true := by
  rw [List.all_eq_true]
  intro d hd
  obtain ⟨s, _, rfl⟩ := List.mem_map.mp hd
  rfl
theorem inT_strs {w : Str} {l : List Str} {S : Sto} : pIn false (.str w) (.tup (l.map .str)) S = some (.bl (decide (w ∈ l)), S) := by
  show (if flD (.str w) = true ∧ (l.map DV.str).all flD = true then some (DV.bl (if false = true then !inD (.str w) (l.map .str) else inD (.str w) (l.map .str)), S) else none) = _
  rw [if_pos ⟨rfl, flD_strs l⟩, tx_inD_strs]
  rfl
theorem ninT_strs {w : Str} {l : List Str} {S : Sto} : pIn true (.str w) (.tup (l.map .str)) S = some (.bl (decide (w ∉ l)), S) := by
  show (if flD (.str w) = true ∧ (l.map DV.str).all flD = true then some (DV.bl (if true = true then !inD (.str w) (l.map .str) else inD (.str w) (l.map .str)), S) else none) = _
  rw [if_pos ⟨rfl, flD_strs l⟩, tx_inD_strs, if_pos rfl, decide_not]
theorem ninTx_strs {w : Str} {l : List Str} {S : Sto} : pIn true (.str w) (.tupx (l.map .str)) S = some (.bl (decide (w ∉ l)), S) := by
  show (if flD (.str w) = true ∧ (l.map DV.str).all flD = true then some (DV.bl (if true = true then !inD (.str w) (l.map .str) else inD (.str w) (l.map .str)), S) else none) = _
  rw [if_pos ⟨rfl, flD_strs l⟩, tx_inD_strs, if_pos rfl, decide_not]
theorem atomV_plain (w : Str) : plain (atomV w) = true := by
  rcases atomV_cases w with ⟨s, h⟩ | ⟨n, h⟩ | h <;> rw [h] <;> rfl
theorem givenV_plain (ws : List Str) : plain (givenV ws) = true := by
  have h2 := atomV_plain (wAt ws 2)
  have h4 := atomV_plain (wAt ws 4)
  unfold givenV
  split
  · rfl
  · split
    · simp [h2]
    · split
      · rfl
      · simp [h2, h4]
theorem tx_given_eq {ws : List Str} (W : WsOk ws) (h3 : 2 < ws.length) : pureOf F_given_of [wsD ws] = some (givenV ws) := by
  let ρ : Ev := [some (wsD ws)]
  have v0 : dVar 0 ρ ([] : Sto) = some (wsD ws, []) := rfl
  refine pureOf_of (S' := []) (run_rt rfl ?_) (givenV_plain ws)
  refine ret_p (or_p (not_p (tx_cname W 0 v0 (by omega))) fun _ => bl_p (nonB_of (tx_catom W 2 v0 h3))) (fun _ => rfl) fun _ => ?_
  refine ret_p (eqN_of (b := 3) (tx_len v0) rfl) (fun _ => ret_of (prim_of (args3 rfl (tx_at 0 v0 (by omega)) (tx_catom W 2 v0 h3)) rfl)) fun _ => ?_
  refine ret_p (or_p (neN_of (b := 5) (tx_len v0) rfl) fun h5 => or_p (bin_of (tx_at 3 v0 (by omega)) rfl (ninTx_strs (l := signL))) fun _ => bl_p (nonB_of (tx_catom W 4 v0 (by omega)))) (fun _ => rfl) fun h5 => ?_
  have h5 : ws.length = 5 := by
    refine Decidable.by_contra fun z => h5 (.inl z)
  exact ret_of (prim_of (argsC rfl (argsC (tx_at 0 v0 (by omega)) (argsC (tx_at 3 v0 (by omega)) (args2 (tx_catom W 2 v0 h3) (tx_catom W 4 v0 (by omega)))))) rfl)
end Lk12

namespace Lk12
open PySem PySem.Spec PyProof.Rows L2 Dn
/-! ### a text's row whole -/
theorem partV_cases (w f : Str) : (∃ s, partV w f = .str s) ∨ (∃ n : Nat, partV w f = .int n) ∨ partV w f = .non := by
  unfold partV
  split
  · exact atomV_cases w
  · split
    · exact .inl ⟨_, rfl⟩
    · exact .inr (.inr rfl)
theorem partsV_fl (ws : List Str) (fs : Str) : (partsV ws fs).all flD = true ∧ plainL (partsV ws fs) = true := by
  have h : ∀ d ∈ partsV ws fs, flD d = true ∧ plain d = true := fun d hd => by
    obtain ⟨p, _, rfl⟩ := List.mem_map.mp hd
    rcases partV_cases p.1 ⟨#[p.2]⟩ with ⟨s, e⟩ | ⟨n, e⟩ | e <;> rw [e] <;> exact ⟨rfl, rfl⟩
  exact ⟨List.all_eq_true.mpr fun d hd => (h d hd).1, plainL_iff.mpr fun d hd => (h d hd).2⟩
theorem inD_non : ∀ {ds : List DV}, ds.all flD = true → inD .non ds = ds.any nonB
  | [], _ => rfl
  | d :: ds, h => by
    rw [List.all_cons, Bool.and_eq_true] at h
    have ih := inD_non h.2
    unfold inD at *
    rw [List.any_cons, List.any_cons, ih]
    cases d <;> first | rfl | exact absurd h.1 (by decide)
theorem in_non {ds : List DV} {S : Sto} (h : ds.all flD = true) : pIn false .non (.lst .own ds) S = some (.bl (ds.any nonB), S) := by
  show (if flD .non = true ∧ ds.all flD = true then some (DV.bl (if false = true then !inD .non ds else inD .non ds), S) else _) = _
  rw [if_pos ⟨rfl, h⟩, inD_non h]
  rfl
theorem rowV_plain (ws : List Str) : plain (rowV ws) = true := by
  have hp := (partsV_fl ws (formsV (wAt ws 0))).2
  unfold rowV
  split
  · exact givenV_plain ws
  · split
    · rfl
    · split
      · rfl
      · rw [plain_tup, plainL_cons, hp]
        rfl
theorem tx_drop {ws : List Str} (h : 0 < ws.length) : Dn.cutD (ws.map DV.str) (some 1) none = ws.tail.map .str := by
  cases ws with
  | nil => simp at h
  | cons x xs =>
    unfold Dn.cutD
    have e1 : HT.sIx ((x :: xs).map DV.str).length 0 (some 1) = 1 := by simp [HT.sIx]
    have e2 : HT.sIx ((x :: xs).map DV.str).length ((x :: xs).map DV.str).length none = ((x :: xs).map DV.str).length := by simp [HT.sIx]
    rw [e1, e2, List.map_cons]
    exact List.take_of_length_le (by simp)
theorem tx_zip (l : List Str) (b : Str) : zipD (l.map .str) b = (List.zip l b.cps.toList).map fun p => DV.tup [.str p.1, .str ⟨#[p.2]⟩] := by
  unfold zipD
  rw [List.zip_map_left, List.map_map]
  rfl
theorem formsV_len (k : Str) : (formsV k).length ≤ 3 := by
  unfold formsV
  repeat' split
  all_goals decide
theorem tx_row_eq {ws : List Str} (W : WsOk ws) : pureOf F_row_of [wsD ws] = some (rowV ws) := by
  have hz := W.z
  let R (x1 x2 : Option DV) : Ev := [some (wsD ws), x1, x2, none, none]
  have v0 : ∀ {x1 x2 : Option DV}, dVar 0 (R x1 x2) ([] : Sto) = some (wsD ws, []) := rfl
  have pw : plainL [wsD ws] = true := by
    rw [plainL_cons, show plain (wsD ws) = true by rw [plain_own]; exact plainL_iff.mpr fun d hd => by obtain ⟨s, _, rfl⟩ := List.mem_map.mp hd; rfl]
    rfl
  refine pureOf_of (S' := []) (run_rt rfl (?_ : b_row_of (R none none) [] = _)) (rowV_plain ws)
  unfold rowV
  refine ret_p (and_p (gtN_of (b := 2) (tx_len v0) rfl) fun h => tx_eqAt 1 "=" v0 (by omega)) (fun h => ret_of (callPP (args1 v0) pw (tx_given_eq W h.1))) fun _ => ?_
  have s1 : dSet 1 (dPrim (cP (pureOf F_forms_of) []) (aCons (dBin pIx (dVar 0) (dC (.int 0))) aNil)) (R none none) [] = some (.nx (R (some (.str (formsV (wAt ws 0)))) none) []) :=
    set_of (callPP (args1 (tx_at 0 v0 hz)) rfl (tx_forms_eq _))
  refine (seq_nx s1).trans ?_
  have fl := formsV_len (wAt ws 0)
  generalize formsV (wAt ws 0) = fs at *
  have v1 : ∀ {x2 : Option DV}, dVar 1 (R (some (.str fs)) x2) ([] : Sto) = some (.str fs, []) := rfl
  have l1 : dPrim pLen (aCons (dVar 1) aNil) (R (some (.str fs)) none) ([] : Sto) = some (.int (fs.length : Nat), []) := prim_of (args1 v1) (by
    show (if fs.length ≤ sizeLine then some (DV.int fs.length, ([] : Sto)) else none) = _
    rw [if_pos (size_ok (by omega))])
  refine ret_p (or_p (eqS_of v1 rfl) fun _ => neN_of (tx_len v0) (addI_of (b := 1) l1 rfl)) (fun _ => rfl) fun h => ?_
  have hl : ws.length = fs.length + 1 := Decidable.by_contra fun z => h (.inr z)
  have hw := W.n
  have pl : (partsV ws fs).length ≤ 600 := by
    unfold partsV
    rw [List.length_map, List.length_zip, List.length_tail]
    omega
  have iz : iZipLS (aCons (dSl pSl (dVar 0) (oSome (dC (.int 1))) oNone) (aCons (dVar 1) aNil)) (R (some (.str fs)) none) [] = some ((List.zip ws.tail fs.cps.toList).map fun p => DV.tup [.str p.1, .str ⟨#[p.2]⟩], []) := by
    have e : dSl pSl (dVar 0) (oSome (dC (.int 1))) oNone (R (some (.str fs)) none) ([] : Sto) = some (.lst .own (ws.tail.map .str), []) := by
      rw [← tx_drop hz]
      rfl
    unfold iZipLS
    rw [args2 e v1]
    show some (zipD (ws.tail.map .str) fs, ([] : Sto)) = _
    rw [tx_zip]
  have s2 : dSet 2 (dLc (iZipLS (aCons (dSl pSl (dVar 0) (oSome (dC (.int 1))) oNone) (aCons (dVar 1) aNil))) (gTupD 2 (gsCons (gSet 3) (gsCons (gSet 4) gsNil))) (dC (.bl true)) (dPrim (cP (pureOf F_part_of) []) (aCons (dVar 3) (aCons (dVar 4) aNil))) [3, 4]) (R (some (.str fs)) none) [] = some (.nx (R (some (.str fs)) (some (.lst .own (partsV ws fs)))) []) := by
    refine set_of (dLc_of iz (lc_all (E := fun p : Str × Nat => partV p.1 ⟨#[p.2]⟩) fun p hp => ?_) (size_ok (by have := pl; unfold partsV at this; omega)))
    refine ⟨[some (wsD ws), some (.str fs), none, some (.str p.1), some (.str ⟨#[p.2]⟩)], rfl, rfl, callPP (args2 rfl rfl) rfl (tx_part_eq _ _ ?_)⟩
    exact W.l _ (List.mem_of_mem_tail (List.of_mem_zip (show (p.1, p.2) ∈ _ from hp)).1)
  refine (seq_nx s2).trans ?_
  obtain ⟨pf, pp⟩ := partsV_fl ws fs
  generalize partsV ws fs = ps at *
  refine ret_p (bl_p (bin_of (x := .non) (y := .lst .own ps) rfl rfl (in_non pf))) (fun _ => rfl) fun _ => ?_
  refine ret_of (bin_of (prim_of (args1 (tx_at 0 v0 hz)) rfl) (tupL_of (k := .own) (xs := ps) rfl) ?_)
  show (if [DV.str (wAt ws 0)].length + ps.length ≤ sizeLine then some (DV.tup ([DV.str (wAt ws 0)] ++ ps), ([] : Sto)) else none) = _
  rw [if_pos (size_ok (by simp; omega))]
  rfl
theorem chain_le {ρ : Ev} {S : Sto} {f g h : DE} {a b c : Int} (h1 : f ρ S = some (.int a, S)) (h2 : g ρ S = some (.int b, S)) (h3 : h ρ S = some (.int c, S)) : dChain pLe pLe f g h ρ S = some (.bl (decide (a ≤ b ∧ b ≤ c)), S) := by
  unfold dChain
  rw [h1]
  dsimp only
  rw [h2]
  dsimp only
  have e1 : pLe (.int a) (.int b) S = some (.bl (decide (a ≤ b)), S) := rfl
  have e2 : pLe (.int b) (.int c) S = some (.bl (decide (b ≤ c)), S) := rfl
  rw [e1]
  by_cases q : a ≤ b
  · rw [decide_eq_true q]
    dsimp only
    rw [h3]
    dsimp only
    rw [e2]
    congr 3
    exact decide_eq_decide.mpr ⟨fun z => ⟨q, z⟩, fun z => z.2⟩
  · rw [decide_eq_false q, decide_eq_false fun z => q z.1]
theorem toldV_plain (ws : List Str) : plain (toldV ws) = true := by
  unfold toldV
  split
  · rfl
  · split
    · split <;> rfl
    · rfl
theorem tx_told_eq {ws : List Str} (W : WsOk ws) : pureOf F_told_of [wsD ws] = some (toldV ws) := by
  let ρ : Ev := [some (wsD ws)]
  have v0 : dVar 0 ρ ([] : Sto) = some (wsD ws, []) := rfl
  refine pureOf_of (S' := []) (run_rt rfl (?_ : b_told_of ρ [] = _)) (toldV_plain ws)
  unfold toldV
  refine ret_p (or_p (neN_of (b := 3) (tx_len v0) rfl) fun h => or_p (not_p (tx_cname W 1 v0 (by omega))) fun _ => bl_p (nonB_of (tx_cval W 2 v0 (by omega)))) (fun _ => rfl) fun h => ?_
  have h3 : ws.length = 3 := Decidable.by_contra fun z => h (.inl z)
  have c2 := tx_cval W 2 v0 (by omega)
  rcases tx_val_cases (wAt ws 2) with ⟨n, e⟩ | e
  · rw [e] at c2 ⊢
    have i1 : dBin (pIn false) (dBin pIx (dVar 0) (dC (.int 0))) (dPrim pTup (aCons (dC (.str "shelf")) (aCons (dC (.str "twins")) aNil))) ρ [] = some (.bl (decide (wAt ws 0 = "shelf" ∨ wAt ws 0 = "twins")), []) := by
      refine bin_of (tx_at 0 v0 (by omega)) rfl ((inT_strs (l := ["shelf", "twins"])).trans ?_)
      congr 3
      exact decide_eq_decide.mpr (by simp)
    have i2 : dBin (pIn false) (dBin pIx (dVar 0) (dC (.int 0))) (dPrim pTup (aCons (dC (.str "twin")) (aCons (dC (.str "twins")) aNil))) ρ [] = some (.bl (decide (wAt ws 0 = "twin" ∨ wAt ws 0 = "twins")), []) := by
      refine bin_of (tx_at 0 v0 (by omega)) rfl ((inT_strs (l := ["twin", "twins"])).trans ?_)
      congr 3
      exact decide_eq_decide.mpr (by simp)
    have ch : dNot (dChain pLe pLe (dC (.int 1)) (dPrim (cP (pureOf F_value_of) []) (aCons (dBin pIx (dVar 0) (dC (.int 2))) aNil)) (dC (.int 8))) ρ [] = some (.bl (decide (¬ ((1 : Int) ≤ n ∧ (n : Int) ≤ 8))), []) := by
      have := not_of (chain_le (f := dC (.int 1)) (h := dC (.int 8)) (a := 1) (c := 8) rfl c2 rfl)
      exact this.trans (by rw [decide_not])
    refine ret_p (and_p i1 fun _ => ch) (fun _ => rfl) fun _ => ?_
    exact ret_of (prim_of (args3 (tx_at 1 v0 (by omega)) c2 i2) rfl)
  · exact absurd (Or.inr (Or.inr (by rw [e]; rfl))) h
theorem seq_set {ρ : Ev} {S S1 : Sto} {i : Nat} {f : DE} {t : DS} {d : DV} {r : Option Out} (h : f ρ S = some (d, S1)) (h2 : t (ρ.set i (some d)) S1 = r) : dSeq (dSet i f) t ρ S = r := (seq_nx (set_of h)).trans h2
theorem itemV_plain (ws : List Str) (b : Bool) : plain (itemV ws b) = true := by
  have h1 := rowV_plain ws
  have h2 := toldV_plain ws
  unfold itemV
  split
  · split
    · rfl
    · simp [h1]
  · split
    · split <;> rfl
    · split
      · rfl
      · split <;> simp [h2]
theorem tx_item_eq {ws : List Str} (W : WsOk ws) (b : Bool) : pureOf F_item_of [wsD ws, .bl b] = some (itemV ws b) := by
  have hz := W.z
  let R (x2 x3 : Option DV) : Ev := [some (wsD ws), some (.bl b), x2, x3]
  have v0 : ∀ {x2 x3 : Option DV}, dVar 0 (R x2 x3) ([] : Sto) = some (wsD ws, []) := rfl
  have pw : plainL [wsD ws] = true := by
    rw [plainL_cons, show plain (wsD ws) = true by rw [plain_own]; exact plainL_iff.mpr fun d hd => by obtain ⟨s, _, rfl⟩ := List.mem_map.mp hd; rfl]
    rfl
  refine pureOf_of (S' := []) (run_rt rfl (?_ : b_item_of (R none none) [] = _)) (itemV_plain ws b)
  unfold itemV
  refine ret_p (or_p (and_p (gtN_of (b := 2) (tx_len v0) rfl) fun h => tx_eqAt 1 "=" v0 (by omega)) fun _ => bin_of (tx_at 0 v0 hz) rfl (ninT_strs (l := ["cell", "twin", "shelf", "twins", "at"]))) (fun _ => ?_) fun hk => ?_
  · refine seq_set (ρ := R none none) (callPP (args1 v0) pw (tx_row_eq W)) ?_
    exact ret_p (bl_p (nonB_of rfl)) (fun _ => rfl) fun _ => ret_of (prim_of (args2 rfl rfl) rfl)
  · refine ret_p (tx_eqAt 0 "at" v0 hz) (fun _ => ?_) fun ha => ?_
    · exact ret_p (or_p (neN_of (b := 2) (tx_len v0) rfl) fun h => not_p (tx_clabel W 1 v0 (by omega))) (fun _ => rfl) fun h => ret_of (prim_of (args2 rfl (tx_at 1 v0 (by
        have : ws.length = 2 := Decidable.by_contra fun z => h (.inl z)
        omega))) rfl)
    · refine seq_set (ρ := R none none) (callPP (args1 v0) pw (tx_told_eq W)) ?_
      have i1 : dBin (pIn false) (dBin pIx (dVar 0) (dC (.int 0))) (dPrim pTup (aCons (dC (.str "cell")) (aCons (dC (.str "twin")) aNil))) (R (some (toldV ws)) none) [] = some (.bl (decide (wAt ws 0 = "cell" ∨ wAt ws 0 = "twin")), []) := by
        refine bin_of (tx_at 0 v0 hz) rfl ((inT_strs (l := ["cell", "twin"])).trans ?_)
        congr 3
        exact decide_eq_decide.mpr (by simp)
      exact ret_p (or_p (bl_p (nonB_of rfl)) fun _ => bl_p rfl) (fun _ => rfl) fun _ => ret_p i1 (fun _ => ret_of (prim_of (args2 rfl rfl) rfl)) fun _ => ret_of (prim_of (args2 rfl rfl) rfl)
end Lk12

namespace Lk12
open PySem PySem.Spec PyProof.Rows L2 Dn
/-! ### the items of a text -/
abbrev Trd : Type := Str × Int × Bool
abbrev trD (c : Trd) : DV := .tup [.str c.1, .int c.2.1, .bl c.2.2]
def lrD (r : PRow) (l : Str) : DV := match r with
  | .ifr a _ => .tup [.str "if", a.d, .str l]
  | .go _ => .tup [.str "go", .str l]
  | r => r.d
inductive Itm where
  | cell (c : Trd) | shelf (c : Trd) | lab (s : Str) | row (r : PRow) (l : Str)
def Itm.d : Itm → DV
  | .cell c => .tup [.str "cell", trD c]
  | .shelf c => .tup [.str "shelf", trD c]
  | .lab s => .tup [.str "label", .str s]
  | .row r l => .tup [.str "row", lrD r l]
def Itm.beg : Itm → Bool
  | .cell _ => false
  | .shelf _ => false
  | _ => true
def Itm.nms : Itm → List Str
  | .cell c => [c.1]
  | .shelf c => [c.1]
  | _ => []
def Itm.lbs : Itm → List Str
  | .lab s => [s]
  | _ => []
/-- words that a line writes -/
structure WsLn (ws : List Str) : Prop where
  w : WsOk ws
  s : ∀ w ∈ ws, 32 ∉ TL.tl w
  l : ∀ w ∈ ws, 10 ∉ TL.tl w
def lnS (ws : List Str) : Str := Txt.join " " ws
inductive Reads : Bool → List (List Str) → List Itm → Prop where
  | nil (b : Bool) : Reads b [] []
  | cons {b : Bool} {ws : List Str} {it : Itm} {l : List (List Str)} {its : List Itm} (w : WsLn ws) (z : (lnS ws).length ≤ 100000) (e : itemV ws b = it.d) (h : Reads (b || it.beg) l its) : Reads b (ws :: l) (it :: its)
theorem Reads.len {b : Bool} {l : List (List Str)} {its : List Itm} (h : Reads b l its) : l.length = its.length := by
  induction h with
  | nil b => rfl
  | cons w z e h ih => simp [ih]
theorem sp_split {ws : List Str} (w : WsLn ws) : Txt.split (lnS ws) " " = ws :=
  TL.split_join (y := (" " : Str)) (s := 32) (S := []) (by decide +kernel) (by decide +kernel) (fun e => by have := w.w.z; rw [e] at this; simp at this) w.s
theorem lrD_plain {r : PRow} {l : Str} : plain (lrD r l) = true := by cases r <;> simp [lrD, PRow.d]
theorem itm_plain {it : Itm} : plain it.d = true := by
  cases it <;> simp [Itm.d, lrD_plain]
theorem itm_non {it : Itm} : nonB it.d = false := by cases it <;> rfl
theorem forL_nx {g : DG} {body : DS} {d : DV} {ds : List DV} {ρ ρ1 ρ2 : Ev} {S S1 S2 : Sto} (h1 : g d ρ S = some (ρ1, S1)) (h2 : body ρ1 S1 = some (.nx ρ2 S2)) : forL g body (d :: ds) ρ S = forL g body ds ρ2 S2 := by
  unfold forL
  rw [h1]
  dsimp only
  rw [h2]
  cases ds <;> rfl
abbrev itsB : DS := (dSeq (dSet 5 (dPrim (cP (pureOf F_item_of) []) (aCons (dM1 (pSplit false) (dVar 4) (dC (.str " "))) (aCons (dVar 2) aNil))))
  (dSeq (dIfS (dBin (pIs false) (dVar 5) (dC .non)) dNever dNext)
  (dSeq (dSet 2 (dOr (dVar 2) (dBin (pIn false) (dBin pIx (dVar 5) (dC (.int 0))) (dPrim pTup (aCons (dC (.str "row")) (aCons (dC (.str "label")) aNil))))))
  (dExpr (dMt pAppend (dVar 1) (aCons (dVar 5) aNil))))))
theorem itm_srt {it : Itm} {ρ : Ev} {S : Sto} {f : DE} (h : f ρ S = some (it.d, S)) : dBin (pIn false) (dBin pIx f (dC (.int 0))) (dPrim pTup (aCons (dC (.str "row")) (aCons (dC (.str "label")) aNil))) ρ S = some (.bl it.beg, S) := by
  cases it with
  | cell c => exact bin_of (bin_of (y := .int 0) h rfl rfl) rfl ((inT_strs (w := "cell") (l := ["row", "label"])).trans (by rw [show decide (("cell" : Str) ∈ (["row", "label"] : List Str)) = false by decide +kernel]; rfl))
  | shelf c => exact bin_of (bin_of (y := .int 0) h rfl rfl) rfl ((inT_strs (w := "shelf") (l := ["row", "label"])).trans (by rw [show decide (("shelf" : Str) ∈ (["row", "label"] : List Str)) = false by decide +kernel]; rfl))
  | lab c => exact bin_of (bin_of (y := .int 0) h rfl rfl) rfl ((inT_strs (w := "label") (l := ["row", "label"])).trans (by rw [show decide (("label" : Str) ∈ (["row", "label"] : List Str)) = true by decide +kernel]; rfl))
  | row c l => exact bin_of (bin_of (y := .int 0) h rfl rfl) rfl ((inT_strs (w := "row") (l := ["row", "label"])).trans (by rw [show decide (("row" : Str) ∈ (["row", "label"] : List Str)) = true by decide +kernel]; rfl))
theorem items_loop {T : Option DV} : ∀ {b : Bool} {l : List (List Str)} {its : List Itm} (h : Reads b l its) (i : Nat) (acc : List Itm) (x3 x4 x5 : Option DV), acc.length + its.length ≤ 100000 →
    ∃ b' y3 y4 y5, forL (gTupD 2 (gsCons (gSet 3) (gsCons (gSet 4) gsNil))) itsB (enD i (l.map fun ws => DV.str (lnS ws))) [T, some (.loc 0), some (.bl b), x3, x4, x5] [.lst (acc.map Itm.d)] =
      some (.nx [T, some (.loc 0), some (.bl b'), y3, y4, y5] [.lst ((acc ++ its).map Itm.d)]) := by
  intro b l its h
  induction h with
  | nil b => intro i acc x3 x4 x5 _; exact ⟨b, x3, x4, x5, by rw [List.append_nil]; rfl⟩
  | @cons b ws it l its w z e h ih =>
    intro i acc x3 x4 x5 hz
    rw [List.length_cons] at hz
    let N (b : Bool) (x5 : Option DV) : Ev := [T, some (.loc 0), some (.bl b), some (.int (i : Nat)), some (.str (lnS ws)), x5]
    let S : Sto := [.lst (acc.map Itm.d)]
    have hsp : dM1 (pSplit false) (dVar 4) (dC (.str " ")) (N b x5) S = some (wsD ws, S) := by
      show pSplit false (lnS ws) (.str " ") S = _
      show (if ((" " : Str).length == 0) = false ∧ (lnS ws).length + 2 ≤ sizeLine then some (DV.lst .own ((Txt.split (lnS ws) " ").map .str), S) else none) = _
      rw [if_pos ⟨by decide +kernel, size_ok (by omega)⟩, sp_split w]
    have s1 : dSet 5 (dPrim (cP (pureOf F_item_of) []) (aCons (dM1 (pSplit false) (dVar 4) (dC (.str " "))) (aCons (dVar 2) aNil))) (N b x5) S = some (.nx (N b (some it.d)) S) := by
      refine set_of (callPP (args2 hsp rfl) ?_ ((tx_item_eq w.w b).trans (by rw [e])))
      rw [plainL_cons, plain_own, plainL_iff.mpr fun d hd => by obtain ⟨s, _, rfl⟩ := List.mem_map.mp hd; rfl]
      rfl
    have s2 : dIfS (dBin (pIs false) (dVar 5) (dC .non)) dNever dNext (N b (some it.d)) S = some (.nx (N b (some it.d)) S) := by
      have := nonB_of (f := dVar 5) (ρ := N b (some it.d)) (S := S) (d := it.d) rfl
      rw [itm_non] at this
      exact (ifS_f this).trans rfl
    have s3 : dSet 2 (dOr (dVar 2) (dBin (pIn false) (dBin pIx (dVar 5) (dC (.int 0))) (dPrim pTup (aCons (dC (.str "row")) (aCons (dC (.str "label")) aNil))))) (N b (some it.d)) S = some (.nx (N (b || it.beg) (some it.d)) S) :=
      set_of (or_b rfl (itm_srt rfl))
    have s4 : dExpr (dMt pAppend (dVar 1) (aCons (dVar 5) aNil)) (N (b || it.beg) (some it.d)) S = some (.nx (N (b || it.beg) (some it.d)) [.lst ((acc ++ [it]).map Itm.d)]) := by
      refine (append_of (n := 0) (xs := acc.map Itm.d) (y := it.d) rfl rfl rfl (by rw [List.length_map]; omega)).trans ?_
      show some (Out.nx _ [.lst (acc.map Itm.d ++ [it.d])]) = _
      rw [List.map_append]
      rfl
    obtain ⟨b', y3, y4, y5, el⟩ := ih (i + 1) (acc ++ [it]) (some (.int (i : Nat))) (some (.str (lnS ws))) (some it.d) (by simp; omega)
    refine ⟨b', y3, y4, y5, ?_⟩
    have hb : itsB (N b x5) S = some (.nx (N (b || it.beg) (some it.d)) [.lst ((acc ++ [it]).map Itm.d)]) := (seq_nx s1).trans ((seq_nx s2).trans ((seq_nx s3).trans s4))
    rw [List.append_assoc] at el
    rw [List.map_cons]
    unfold enD
    rw [forL_nx (ρ1 := N b x5) (S1 := S) rfl hb]
    exact el
theorem items_plain {its : List Itm} : plainL (its.map Itm.d) = true := plainL_iff.mpr fun d hd => by
  obtain ⟨it, _, rfl⟩ := List.mem_map.mp hd
  exact itm_plain
abbrev itsD (its : List Itm) : DV := .lst .own (its.map Itm.d)
theorem tx_items_eq {l : List (List Str)} {its : List Itm} {T : Str} (h : Reads false l its) (hn : l ≠ []) (hT : Txt.split T "\n" = l.map lnS) (hl : T.length ≤ 900000) (hz : its.length ≤ 10000) : pureOf F_items_of [.str T] = some (itsD its) := by
  let N (x1 x2 : Option DV) (x3 x4 x5 : Option DV) : Ev := [some (.str T), x1, x2, x3, x4, x5]
  obtain ⟨b', y3, y4, y5, el⟩ := items_loop (T := some (.str T)) h 0 [] none none none (by simp; omega)
  have it : iEnum2 (aCons (dM1 (pSplit false) (dVar 0) (dC (.str "\n"))) aNil) (N (some (.loc 0)) (some (.bl false)) none none none) [.lst []] = some (enD 0 (l.map fun ws => DV.str (lnS ws)), [.lst []]) := by
    have e : dM1 (pSplit false) (dVar 0) (dC (.str "\n")) (N (some (.loc 0)) (some (.bl false)) none none none) [.lst []] = some (.lst .own (l.map fun ws => DV.str (lnS ws)), [.lst []]) := by
      show (if (("\n" : Str).length == 0) = false ∧ T.length + 2 ≤ sizeLine then some (DV.lst .own ((Txt.split T "\n").map .str), [Cell.lst []]) else none) = _
      rw [if_pos ⟨by decide +kernel, size_ok (by omega)⟩, hT, List.map_map]
      rfl
    unfold iEnum2
    rw [args1 e]
    rfl
  have hp : plain (itsD its) = true := by rw [plain_own]; exact items_plain
  refine pureOf_loc (n := 0) (S' := [.lst (its.map Itm.d)]) (run_rt rfl ?_) rfl items_plain
  show b_items_of (N none none none none none) [] = _
  exact (seq_nx (ρ' := N (some (.loc 0)) none none none none) (S' := [.lst []]) rfl).trans ((seq_nx (ρ' := N (some (.loc 0)) (some (.bl false)) none none none) (S' := [.lst []]) rfl).trans ((seq_nx (for_of it el)).trans rfl))
/-! ### nothing twice -/
abbrev onB : DS := (dIfS (dBin (pEq false) (dVar 3) (dC (.str "label"))) (dSeq (dIfS (dBin (pIn false) (dVar 4) (dVar 2)) dNever dNext)
  (dSub (dC (.bl true)) (dVar 2) (dVar 4))) (dIfS (dBin (pEq true) (dVar 3) (dC (.str "row"))) (dSeq (dIfS (dBin (pIn false) (dBin pIx (dVar 4) (dC (.int 0))) (dVar 1)) dNever dNext)
  (dSub (dC (.bl true)) (dVar 1) (dBin pIx (dVar 4) (dC (.int 0))))) dNext))
abbrev trK (l : List Str) : List (Str × Bool) := l.map fun s => (s, true)
theorem trK_none {l : List Str} {s : Str} (h : s ∉ l) : ahas (trK l) s = false := by
  unfold ahas
  rw [List.any_map, List.any_eq_false]
  intro x hx
  simp only [Function.comp, decide_eq_true_eq]
  intro e
  exact h (e ▸ hx)
theorem trK_new {l : List Str} {s : Str} (h : s ∉ l) : apt (trK l) s true = trK (l ++ [s]) := by
  unfold apt
  rw [trK_none h, trK, trK, List.map_append]
  rfl
theorem in_dkS {α : Type} {f : α → DV} {S : Sto} {n : Nat} {l : List (Str × α)} {x : Str} (h : S[n]? = some (dkS f l)) (neg : Bool) : pIn neg (.str x) (.loc n) S = some (.bl (if neg then !((agt l x).map f).isSome else ((agt l x).map f).isSome), S) := by
  have h1 : asL S (.loc n) = none := by
    unfold asL
    simp only [h, dkS]
  have h2 := getD_S (f := f) (x := x) h
  show (match asL S (.loc n) with | some ds => _ | none => (match getD S (.loc n) (.str x) with | some o => some (DV.bl (if neg then !o.isSome else o.isSome), S) | none => none)) = _
  rw [h1]
  dsimp only
  rw [h2]
abbrev onS (nm lb : List Str) : Sto := [dkS DV.bl (trK nm), dkS DV.bl (trK lb)]
theorem once_loop {T : Option DV} : ∀ (its : List Itm) (nm lb : List Str) (x3 x4 : Option DV), (nm ++ (its.map Itm.nms).flatten).Nodup → (lb ++ (its.map Itm.lbs).flatten).Nodup → nm.length + its.length ≤ 20000 → lb.length + its.length ≤ 20000 →
    ∃ y3 y4 nm' lb', forL (gTupD 2 (gsCons (gSet 3) (gsCons (gSet 4) gsNil))) onB (its.map Itm.d) [T, some (.loc 0), some (.loc 1), x3, x4] (onS nm lb) = some (.nx [T, some (.loc 0), some (.loc 1), y3, y4] (onS nm' lb'))
  | [], nm, lb, x3, x4, _, _, _, _ => ⟨x3, x4, nm, lb, rfl⟩
  | it :: its, nm, lb, x3, x4, hn, hl, zn, zl => by
    rw [List.length_cons] at zn zl
    rw [List.map_cons, List.flatten_cons] at hn hl
    let N (x3 x4 : DV) : Ev := [T, some (.loc 0), some (.loc 1), some x3, some x4]
    let S : Sto := onS nm lb
    have es : ∀ {a b : Str} {d : DV}, dBin (pEq false) (dVar 3) (dC (.str b)) (N (.str a) d) S = some (.bl (decide (a = b)), S) := fun {a b d} => eqS_of rfl rfl
    have en : ∀ {a b : Str} {d : DV}, dBin (pEq true) (dVar 3) (dC (.str b)) (N (.str a) d) S = some (.bl (!decide (a = b)), S) := fun {a b d} => bin_of (x := .str a) (y := .str b) rfl rfl rfl
    have hs : S[0]? = some (dkS DV.bl (trK nm)) := rfl
    have hs1 : S[1]? = some (dkS DV.bl (trK lb)) := rfl
    have thing : ∀ (c : Trd) (a : Str), (decide (a = "label") = false) → (decide (a = "row") = false) → c.1 ∉ nm → onB (N (.str a) (trD c)) S = some (.nx (N (.str a) (trD c)) (onS (nm ++ [c.1]) lb)) := fun c a h1 h2 hc => by
      have i0 : dBin pIx (dVar 4) (dC (.int 0)) (N (.str a) (trD c)) S = some (.str c.1, S) := rfl
      refine (ifS_f (es.trans (by rw [h1]))).trans ((ifS_t (en.trans (by rw [h2]; rfl))).trans ((seq_nx (S' := S) (ρ' := N (.str a) (trD c)) ((ifS_f (bin_of i0 (y := .loc 0) rfl ?_)).trans rfl)).trans (sub_of (y := .bl true) (x := .loc 0) (k := .str c.1) rfl rfl i0 ?_)))
      · rw [in_dkS hs, agt_none.mpr (trK_none hc)]
        rfl
      · rw [setI_S (f := DV.bl) (v := true) hs (by rw [List.length_map]; omega), trK_new hc]
        rfl
    have go : ∀ {d e : DV} {nm2 lb2 : List Str}, it.d = .tup [d, e] → onB (N d e) S = some (.nx (N d e) (onS nm2 lb2)) → (nm2 ++ (its.map Itm.nms).flatten).Nodup → (lb2 ++ (its.map Itm.lbs).flatten).Nodup → nm2.length ≤ nm.length + 1 → lb2.length ≤ lb.length + 1 →
        ∃ y3 y4 nm' lb', forL (gTupD 2 (gsCons (gSet 3) (gsCons (gSet 4) gsNil))) onB ((it :: its).map Itm.d) [T, some (.loc 0), some (.loc 1), x3, x4] (onS nm lb) = some (.nx [T, some (.loc 0), some (.loc 1), y3, y4] (onS nm' lb')) := fun {d e nm2 lb2} hd hb h1 h2 z1 z2 => by
      obtain ⟨y3, y4, nm', lb', el⟩ := once_loop (T := T) its nm2 lb2 (some d) (some e) h1 h2 (by omega) (by omega)
      refine ⟨y3, y4, nm', lb', ?_⟩
      rw [List.map_cons, hd, forL_nx (ρ1 := N d e) (S1 := S) rfl hb]
      exact el
    cases it with
    | cell c =>
      have hc : c.1 ∉ nm := fun h => (List.nodup_append.mp hn).2.2 _ h _ (by simp [Itm.nms]) rfl
      exact go rfl (thing c "cell" (by decide +kernel) (by decide +kernel) hc) (by rw [List.append_assoc]; exact hn) hl (by simp) (by omega)
    | shelf c =>
      have hc : c.1 ∉ nm := fun h => (List.nodup_append.mp hn).2.2 _ h _ (by simp [Itm.nms]) rfl
      exact go rfl (thing c "shelf" (by decide +kernel) (by decide +kernel) hc) (by rw [List.append_assoc]; exact hn) hl (by simp) (by omega)
    | lab s =>
      have hc : s ∉ lb := fun h => (List.nodup_append.mp hl).2.2 _ h _ (by simp [Itm.lbs]) rfl
      refine go (d := .str "label") (e := .str s) (nm2 := nm) (lb2 := lb ++ [s]) rfl ?_ hn (by rw [List.append_assoc]; exact hl) (by omega) (by simp)
      refine (ifS_t (es.trans (by rw [decide_eq_true rfl]))).trans ((seq_nx (S' := S) (ρ' := N (.str "label") (.str s)) ((ifS_f (bin_of (x := .str s) (y := .loc 1) rfl rfl ?_)).trans rfl)).trans (sub_of (y := .bl true) (x := .loc 1) (k := .str s) rfl rfl rfl ?_))
      · rw [in_dkS hs1, agt_none.mpr (trK_none hc)]
        rfl
      · rw [setI_S (f := DV.bl) (v := true) hs1 (by rw [List.length_map]; omega), trK_new hc]
        rfl
    | row r l =>
      refine go (d := .str "row") (e := lrD r l) (nm2 := nm) (lb2 := lb) rfl ?_ hn hl (by omega) (by omega)
      exact (ifS_f (es.trans (by rw [show decide (("row" : Str) = "label") = false by decide +kernel]))).trans ((ifS_f (en.trans (by rw [decide_eq_true rfl]; rfl))).trans rfl)
theorem tx_once_eq {its : List Itm} (hn : ((its.map Itm.nms).flatten).Nodup) (hl : ((its.map Itm.lbs).flatten).Nodup) (hz : its.length ≤ 10000) : pureOf F_need_once [itsD its] = some .non := by
  let N (x1 x2 : Option DV) (x3 x4 : Option DV) : Ev := [some (itsD its), x1, x2, x3, x4]
  obtain ⟨y3, y4, nm', lb', el⟩ := once_loop (T := some (itsD its)) its [] [] none none hn hl (by simp; omega) (by simp; omega)
  refine pureOf_of (S' := onS nm' lb') (d := .non) (run_nx rfl (ρ' := N (some (.loc 0)) (some (.loc 1)) y3 y4) ?_) rfl
  show b_need_once (N none none none none) [] = _
  exact (seq_nx (ρ' := N (some (.loc 0)) none none none) (S' := [.dik [] []]) rfl).trans ((seq_nx (ρ' := N (some (.loc 0)) (some (.loc 1)) none none) (S' := onS [] []) rfl).trans (for_of rfl el))
end Lk12

namespace Lk12
open PySem PySem.Spec PyProof.Rows L2 Dn
/-! ### where the labels stand -/
def seatL : List Itm → Nat → List (Str × Nat)
  | [], _ => []
  | .lab s :: l, n => (s, n) :: seatL l n
  | .row _ _ :: l, n => seatL l (n + 1)
  | _ :: l, n => seatL l n
abbrev tx_stB : DS := (dIfS (dBin (pEq false) (dVar 3) (dC (.str "label"))) (dSub (dVar 2) (dVar 1) (dVar 4)) (dIfS (dBin (pEq false) (dVar 3) (dC (.str "row"))) (dAug 2 pAddI (dC (.int 1))) dNext))
abbrev nI (n : Nat) : DV := .int (n : Int)
theorem ahas_not {α : Type} {l : List (Str × α)} {s : Str} (h : s ∉ l.map (·.1)) : ahas l s = false := by
  unfold ahas
  rw [List.any_eq_false]
  intro p hp
  simp only [decide_eq_true_eq]
  intro e
  exact h (e ▸ List.mem_map_of_mem hp)
theorem seats_loop {T : Option DV} : ∀ (its : List Itm) (acc : List (Str × Nat)) (n : Nat) (x3 x4 : Option DV), (acc.map (·.1) ++ (its.map Itm.lbs).flatten).Nodup → acc.length + its.length ≤ 20000 →
    ∃ m y3 y4, forL (gTupD 2 (gsCons (gSet 3) (gsCons (gSet 4) gsNil))) tx_stB (its.map Itm.d) [T, some (.loc 0), some (nI n), x3, x4] [dkS nI acc] = some (.nx [T, some (.loc 0), some (nI m), y3, y4] [dkS nI (acc ++ seatL its n)])
  | [], acc, n, x3, x4, _, _ => ⟨n, x3, x4, by rw [seatL, List.append_nil]; rfl⟩
  | it :: its, acc, n, x3, x4, hl, hz => by
    rw [List.length_cons] at hz
    rw [List.map_cons, List.flatten_cons] at hl
    let N (n : Nat) (x3 x4 : DV) : Ev := [T, some (.loc 0), some (nI n), some x3, some x4]
    let S : Sto := [dkS nI acc]
    have es : ∀ {a b : Str} {d : DV}, dBin (pEq false) (dVar 3) (dC (.str b)) (N n (.str a) d) S = some (.bl (decide (a = b)), S) := fun {a b d} => eqS_of rfl rfl
    have go : ∀ {d e : DV} {acc2 : List (Str × Nat)} {n2 : Nat}, it.d = .tup [d, e] → tx_stB (N n d e) S = some (.nx (N n2 d e) [dkS nI acc2]) → (acc2.map (·.1) ++ (its.map Itm.lbs).flatten).Nodup → acc2.length ≤ acc.length + 1 → acc ++ seatL (it :: its) n = acc2 ++ seatL its n2 →
        ∃ m y3 y4, forL (gTupD 2 (gsCons (gSet 3) (gsCons (gSet 4) gsNil))) tx_stB ((it :: its).map Itm.d) [T, some (.loc 0), some (nI n), x3, x4] [dkS nI acc] = some (.nx [T, some (.loc 0), some (nI m), y3, y4] [dkS nI (acc ++ seatL (it :: its) n)]) := fun {d e acc2 n2} hd hb h1 z1 he => by
      obtain ⟨m, y3, y4, el⟩ := seats_loop (T := T) its acc2 n2 (some d) (some e) h1 (by omega)
      refine ⟨m, y3, y4, ?_⟩
      rw [List.map_cons, hd, forL_nx (ρ1 := N n d e) (S1 := S) rfl hb, he]
      exact el
    cases it with
    | cell c => exact go (n2 := n) (acc2 := acc) (d := .str "cell") (e := trD c) rfl ((ifS_f (es.trans (by rw [show decide (("cell" : Str) = "label") = false by decide +kernel]))).trans ((ifS_f (es.trans (by rw [show decide (("cell" : Str) = "row") = false by decide +kernel]))).trans rfl)) hl (by omega) rfl
    | shelf c => exact go (n2 := n) (acc2 := acc) (d := .str "shelf") (e := trD c) rfl ((ifS_f (es.trans (by rw [show decide (("shelf" : Str) = "label") = false by decide +kernel]))).trans ((ifS_f (es.trans (by rw [show decide (("shelf" : Str) = "row") = false by decide +kernel]))).trans rfl)) hl (by omega) rfl
    | row r l => exact go (n2 := n + 1) (acc2 := acc) (d := .str "row") (e := lrD r l) rfl ((ifS_f (es.trans (by rw [show decide (("row" : Str) = "label") = false by decide +kernel]))).trans ((ifS_t (es.trans (by rw [decide_eq_true rfl]))).trans rfl)) hl (by omega) rfl
    | lab s =>
      have hc : s ∉ acc.map (·.1) := fun h => (List.nodup_append.mp hl).2.2 _ h _ (by simp [Itm.lbs]) rfl
      refine go (n2 := n) (acc2 := acc ++ [(s, n)]) (d := .str "label") (e := .str s) rfl ((ifS_t (es.trans (by rw [decide_eq_true rfl]))).trans (sub_of (y := nI n) (x := .loc 0) (k := .str s) rfl rfl rfl ?_)) (by
        rw [List.map_append, List.append_assoc]; exact hl) (by simp) (by rw [seatL, List.append_assoc]; rfl)
      rw [setI_S (f := nI) (l := acc) rfl (by omega)]
      unfold apt
      rw [ahas_not hc]
      rfl
abbrev sD (l : List (Str × Nat)) : DV := .dik .own (l.map fun p => kS p.1) (l.map fun p => nI p.2)
theorem sD_plainL {l : List (Str × Nat)} : plainL (l.map fun p => nI p.2) = true := plainL_iff.mpr fun d hd => by
  obtain ⟨p, _, rfl⟩ := List.mem_map.mp hd
  rfl
theorem tx_seats_eq {its : List Itm} (hl : ((its.map Itm.lbs).flatten).Nodup) (hz : its.length ≤ 10000) : pureOf F_seats_of [itsD its] = some (sD (seatL its 0)) := by
  let N (x1 x2 : Option DV) (x3 x4 : Option DV) : Ev := [some (itsD its), x1, x2, x3, x4]
  obtain ⟨m, y3, y4, el⟩ := seats_loop (T := some (itsD its)) its [] 0 none none hl (by simp; omega)
  have e : F_seats_of [itsD its] [] = some (.loc 0, [dkS nI (seatL its 0)]) := run_rt rfl (by
    show b_seats_of (N none none none none) [] = _
    exact (seq_nx (ρ' := N (some (.loc 0)) none none none) (S' := [.dik [] []]) rfl).trans ((seq_nx (ρ' := N (some (.loc 0)) (some (nI 0)) none none) (S' := [.dik [] []]) rfl).trans ((seq_nx (for_of rfl el)).trans rfl)))
  unfold pureOf
  rw [e]
  exact cpD_dik (b := false) rfl sD_plainL
/-! ### rows led -/
theorem agt_map {α : Type} {l : List (Str × α)} {s : Str} {f : α → DV} : lkD (l.map fun p => kS p.1) (l.map fun p => f p.2) (kS s) = (agt l s).map f := lkD_al kS_inj
theorem in_sD {l : List (Str × Nat)} {s : Str} {n : Nat} {S : Sto} (h : agt l s = some n) : pIn true (.str s) (sD l) S = some (.bl false, S) := by
  have h2 : getD S (sD l) (.str s) = some ((agt l s).map nI) := congrArg some agt_map
  have h3 : pIn true (.str s) (sD l) S = (match getD S (sD l) (.str s) with | some o => some (DV.bl (!o.isSome), S) | none => none) := rfl
  rw [h3, h2, h]
  rfl
theorem ix_sD {l : List (Str × Nat)} {s : Str} {n : Nat} {S : Sto} (h : agt l s = some n) : pIx (sD l) (.str s) S = some (nI n, S) := by
  have h2 : getD S (sD l) (.str s) = some ((agt l s).map nI) := congrArg some agt_map
  have h3 : pIx (sD l) (.str s) S = (match getD S (sD l) (.str s) with | some (some d) => some (d, S) | _ => none) := rfl
  rw [h3, h2, h]
  rfl
def lrOk (l : List (Str × Nat)) (r : PRow) (s : Str) : Prop := match r with
  | .ifr _ n => agt l s = some n
  | .go n => agt l s = some n
  | _ => True
theorem tx_led_eq {l : List (Str × Nat)} {r : PRow} {s : Str} (h : lrOk l r s) : pureOf F_led [lrD r s, sD l] = some r.d := by
  let ρ : Ev := [some (lrD r s), some (sD l)]
  have hp : plain r.d = true := PRow.plain_d
  have ne : ∀ {k : Str} {t : List DV} {b : Str}, lrD r s = .tup (.str k :: t) → dBin (pEq true) (dBin pIx (dVar 0) (dC (.int 0))) (dC (.str b)) ρ [] = some (.bl (!decide (k = b)), []) := fun {k t b} hd => by
    refine bin_of (x := .str k) (y := .str b) (bin_of (x := .tup (.str k :: t)) (y := .int 0) (by rw [← hd]; rfl) rfl ?_) rfl rfl
    exact Dn.ix_tup (atD_nat (k := 0) rfl)
  have oth : ∀ {k : Str} {t : List DV}, lrD r s = .tup (.str k :: t) → decide (k = "go") = false → decide (k = "if") = false → lrD r s = r.d → pureOf F_led [lrD r s, sD l] = some r.d := fun {k t} hd h1 h2 e => by
    refine pureOf_of (S' := []) (run_rt rfl (?_ : b_led ρ [] = _)) hp
    have c := and_b (ne (b := "go") hd) (ne (b := "if") hd)
    rw [h1, h2] at c
    exact seq_rt ((ifS_t c).trans (ret_of (by rw [← e]; rfl)))
  cases r with
  | say a => exact oth rfl (by decide +kernel) (by decide +kernel) rfl
  | copy x a => exact oth rfl (by decide +kernel) (by decide +kernel) rfl
  | op x g a b => exact oth rfl (by decide +kernel) (by decide +kernel) rfl
  | load x c => exact oth rfl (by decide +kernel) (by decide +kernel) rfl
  | store c a => exact oth rfl (by decide +kernel) (by decide +kernel) rfl
  | take x f a => exact oth rfl (by decide +kernel) (by decide +kernel) rfl
  | lay f a b => exact oth rfl (by decide +kernel) (by decide +kernel) rfl
  | hear x => exact oth rfl (by decide +kernel) (by decide +kernel) rfl
  | endr a => exact oth rfl (by decide +kernel) (by decide +kernel) rfl
  | ifr a n =>
    have h : agt l s = some n := h
    refine pureOf_of (S' := []) (run_rt rfl (?_ : b_led ρ [] = _)) hp
    have c := and_b (ne (k := "if") (b := "go") rfl) (ne (k := "if") (b := "if") rfl)
    rw [show (!decide (("if" : Str) = "go") && !decide (("if" : Str) = "if")) = false by decide +kernel] at c
    have lst : dBin pIx (dVar 0) (dUn pNeg (dC (.int 1))) ρ [] = some (.str s, []) := bin_of (x := .tup [.str "if", a.d, .str s]) (y := .int (-1)) rfl rfl (Dn.ix_tup rfl)
    refine (seq_nx ((ifS_f c).trans rfl)).trans ((seq_nx ((ifS_f (bin_of lst (y := sD l) rfl (in_sD h))).trans rfl)).trans (ret_of (bin_of (x := .tup [.str "if", a.d]) (y := .tup [nI n]) rfl (prim_of (args1 (bin_of (x := sD l) rfl lst (ix_sD h))) rfl) ?_)))
    rfl
  | go n =>
    have h : agt l s = some n := h
    refine pureOf_of (S' := []) (run_rt rfl (?_ : b_led ρ [] = _)) hp
    have c := and_f (g := dBin (pEq true) (dBin pIx (dVar 0) (dC (.int 0))) (dC (.str "if"))) ((ne (k := "go") (b := "go") rfl).trans (by rw [show (!decide (("go" : Str) = "go")) = false by decide +kernel]))
    have lst : dBin pIx (dVar 0) (dUn pNeg (dC (.int 1))) ρ [] = some (.str s, []) := bin_of (x := .tup [.str "go", .str s]) (y := .int (-1)) rfl rfl (Dn.ix_tup rfl)
    refine (seq_nx ((ifS_f c).trans rfl)).trans ((seq_nx ((ifS_f (bin_of lst (y := sD l) rfl (in_sD h))).trans rfl)).trans (ret_of (bin_of (x := .tup [.str "go"]) (y := .tup [nI n]) rfl (prim_of (args1 (bin_of (x := sD l) rfl lst (ix_sD h))) rfl) ?_)))
    rfl
end Lk12

namespace Lk12
open PySem PySem.Spec PyProof.Rows L2 Dn
/-! ### a text read -/
def Itm.srt : Itm → Str
  | .cell _ => "cell"
  | .shelf _ => "shelf"
  | .lab _ => "label"
  | .row _ _ => "row"
def Itm.told : Itm → DV
  | .cell c => trD c
  | .shelf c => trD c
  | .lab s => .str s
  | .row r l => lrD r l
def Itm.fin : Itm → DV
  | .row r _ => r.d
  | it => it.told
theorem itm_d {it : Itm} : it.d = .tup [.str it.srt, it.told] := by cases it <;> rfl
theorem tx_read_eq {l : List (List Str)} {its : List Itm} {T : Str} {cells shelves : List Trd} {rows : List PRow} (h : Reads false l its) (hne : l ≠ []) (hT : Txt.split T "\n" = l.map lnS) (hl : T.length ≤ 900000) (hz : its.length ≤ 10000)
    (hn : ((its.map Itm.nms).flatten).Nodup) (hb : ((its.map Itm.lbs).flatten).Nodup) (hr : ∀ r s, Itm.row r s ∈ its → lrOk (seatL its 0) r s)
    (ec : (its.filter fun it : Itm => decide (it.srt = ("cell" : Str))).map Itm.told = cells.map trD) (es : (its.filter fun it : Itm => decide (it.srt = ("shelf" : Str))).map Itm.told = shelves.map trD) (er : (its.filter fun it : Itm => decide (it.srt = ("row" : Str))).map Itm.fin = rows.map PRow.d) :
    pureOf F_read [.str T] = some (.tup [.tup (cells.map trD), .tup (shelves.map trD), .tup (rows.map PRow.d)]) := by
  let N (x1 x2 x3 x4 x5 : Option DV) : Ev := [some (.str T), x1, x2, x3, x4, x5, none, none]
  let I : DV := itsD its
  let D : DV := sD (seatL its 0)
  have hp : plainL [I] = true := by
    rw [plainL_cons, plain_own, items_plain]
    rfl
  have e1 : dPrim (cP (pureOf F_items_of) []) (aCons (dVar 0) aNil) (N none none none none none) [] = some (I, []) := callPP (args1 rfl) rfl (tx_items_eq h hne hT hl hz)
  have e2 : dPrim (cP (pureOf F_need_once) []) (aCons (dVar 1) aNil) (N (some I) none none none none) [] = some (.non, []) := callPP (args1 rfl) hp (tx_once_eq hn hb hz)
  have e3 : dPrim (cP (pureOf F_seats_of) []) (aCons (dVar 1) aNil) (N (some I) none none none none) [] = some (D, []) := callPP (args1 rfl) hp (tx_seats_eq hb hz)
  have lc : ∀ (s : Str) (fe : DE) (E : Itm → DV) (x2 x3 x4 x5 : Option DV), (∀ it ∈ its, it.srt = s → fe [some (.str T), some I, x2, x3, x4, x5, some (.str it.srt), some it.told] [] = some (E it, [])) →
      dPrim pTuple (aCons (dLc (iSeq (dVar 1)) (gTupD 2 (gsCons (gSet 6) (gsCons (gSet 7) gsNil))) (dBin (pEq false) (dVar 6) (dC (.str s))) fe [6, 7]) aNil) (N (some I) x2 x3 x4 x5) [] = some (.tup ((its.filter fun it => decide (it.srt = s)).map E), []) := fun s fe E x2 x3 x4 x5 hf => by
    refine tupL_of (k := .own) (dLc_of (iSeqL_of (k := .own) (xs := its.map Itm.d) rfl) (lc_filt (p := fun it => decide (it.srt = s)) (E := E) fun it hit => ?_) (size_ok (by have := List.length_filter_le (fun it : Itm => decide (it.srt = s)) its; rw [List.length_map]; omega)))
    refine ⟨[some (.str T), some I, x2, x3, x4, x5, some (.str it.srt), some it.told], by rw [itm_d]; rfl, eqS_of rfl rfl, fun hs => hf it hit (of_decide_eq_true hs)⟩
  have c4 := lc "cell" (dVar 7) Itm.told (some D) none none none fun it _ _ => rfl
  have c5 := lc "shelf" (dVar 7) Itm.told (some D) (some (.tup (cells.map trD))) none none fun it _ _ => rfl
  have c6 := lc "row" (dPrim (cP (pureOf F_led) []) (aCons (dVar 7) (aCons (dVar 2) aNil))) Itm.fin (some D) (some (.tup (cells.map trD))) (some (.tup (shelves.map trD))) none fun it hit hs => by
    cases it with
    | row r s =>
      refine callPP (args2 rfl rfl) ?_ (tx_led_eq (hr r s hit))
      show plainL [lrD r s, D] = true
      rw [plainL_cons, lrD_plain, plainL_cons, show plain D = true by show plainL _ = true; exact sD_plainL]
      rfl
    | cell c => exact absurd hs (by show ¬ ("cell" : Str) = "row"; decide +kernel)
    | shelf c => exact absurd hs (by show ¬ ("shelf" : Str) = "row"; decide +kernel)
    | lab c => exact absurd hs (by show ¬ ("label" : Str) = "row"; decide +kernel)
  rw [ec] at c4
  rw [es] at c5
  rw [er] at c6
  have tp : ∀ l : List Trd, plainL (l.map trD) = true := fun l => plainL_iff.mpr fun d hd => by
    obtain ⟨c, _, rfl⟩ := List.mem_map.mp hd
    rfl
  have rp : plainL (rows.map PRow.d) = true := plainL_iff.mpr fun d hd => by
    obtain ⟨c, _, rfl⟩ := List.mem_map.mp hd
    exact PRow.plain_d
  refine pureOf_of (S' := []) (run_rt rfl (?_ : b_read (N none none none none none) [] = _)) (by simp [tp, rp])
  exact (seq_nx (set_of e1)).trans ((seq_nx (expr_of (ρ := N (some I) none none none none) e2)).trans ((seq_nx (set_of (ρ := N (some I) none none none none) e3)).trans ((seq_nx (set_of c4)).trans ((seq_nx (set_of c5)).trans ((seq_nx (set_of c6)).trans (ret_of (prim_of (args3 rfl rfl rfl) rfl)))))))
end Lk12

namespace Lk12
open PySem PySem.Spec PyProof.Rows L2 Dn
/-! ### what is written is read: words -/
def numS (i : Int) : Str := (toString i : String)
theorem nat40 {i : Int} (h : In40 i) : ∃ n : Nat, i = n ∧ n < 1099511627776 := ⟨i.toNat, by have := h.1; omega, by have := h.1; have := h.2; omega⟩
theorem numS_tl (n : Nat) : TL.tl (numS n) = TL.numL n := TL.tl_num n
theorem numL_head : ∀ (n : Nat), 0 < n → ∃ c cs, TL.numL n = c :: cs ∧ c ≠ 48 := by
  intro n
  induction n using Nat.strongRecOn with
  | _ n ih =>
    intro h0
    by_cases h : n < 10
    · exact ⟨48 + n, [], TL.numL_lt h, by omega⟩
    · obtain ⟨c, cs, e, hc⟩ := ih (n / 10) (by omega) (by omega)
      exact ⟨c, cs ++ [48 + n % 10], by rw [TL.numL_step (by omega), e]; rfl, hc⟩
theorem numS_len {n : Nat} (h : n < 1099511627776) : (numS n).length ≤ 13 := by
  rw [TL.len_tl, numS_tl]
  exact TL.numL_len (by decide) (by omega)
theorem numS_val {n : Nat} (h : n < 1099511627776) : tx_val (numS n) = .int n := by
  have e : (numS n).cps.toList = TL.numL n := numS_tl n
  have hd := TL.numL_digits n
  have hv := TL.numL_val n
  have all : (TL.numL n).all (tx_inw tx_fig) = true := List.all_eq_true.mpr fun c hc => tx_fig_in.mpr (hd c hc)
  unfold tx_val
  rw [e]
  cases q : TL.numL n with
  | nil => exact absurd q (TL.numL_ne n)
  | cons c cs =>
    rw [q] at all hv
    have h0 : ¬ (one1 c = "0" ∧ cs ≠ []) := by
      rintro ⟨h1, h2⟩
      by_cases z : n = 0
      · rw [z, TL.numL_lt (by decide)] at q
        exact h2 (List.cons.inj q).2.symm
      · obtain ⟨c', cs', e', hc'⟩ := numL_head n (by omega)
        rw [q] at e'
        have : c = 48 := by
          have h1 : (one1 c).cps.toList = ("0" : Str).cps.toList := by rw [h1]
          have h2 : ("0" : Str).cps.toList = [48] := by decide +kernel
          rw [h2] at h1
          exact (List.cons.inj (show [c] = [48] from h1)).1
        exact hc' ((List.cons.inj e').1 ▸ this)
    dsimp only
    rw [if_pos ⟨all, h0, by rw [hv]; exact h⟩, hv]
theorem abc_in {c : Nat} : tx_inw abc c = true ↔ 97 ≤ c ∧ c < 123 := by
  have e : abc.cps.toList = (List.range 26).map (97 + ·) := by decide +kernel
  unfold tx_inw
  rw [e, decide_eq_true_eq, List.mem_map]
  constructor
  · rintro ⟨k, hk, rfl⟩
    have := List.mem_range.mp hk
    omega
  · rintro ⟨h1, h2⟩
    exact ⟨c - 97, List.mem_range.mpr (by omega), by omega⟩
theorem labS_in {c : Nat} : tx_inw tx_labS c = true ↔ (97 ≤ c ∧ c < 123) ∨ (48 ≤ c ∧ c < 58) := by
  have e : tx_labS.cps.toList = (List.range 26).map (97 + ·) ++ (List.range 10).map (48 + ·) := by decide +kernel
  unfold tx_inw
  rw [e, decide_eq_true_eq, List.mem_append, List.mem_map, List.mem_map]
  constructor
  · rintro (⟨k, hk, rfl⟩ | ⟨k, hk, rfl⟩)
    · have := List.mem_range.mp hk
      omega
    · have := List.mem_range.mp hk
      omega
  · rintro (⟨h1, h2⟩ | ⟨h1, h2⟩)
    · exact .inl ⟨c - 97, List.mem_range.mpr (by omega), by omega⟩
    · exact .inr ⟨c - 48, List.mem_range.mpr (by omega), by omega⟩
theorem nameB_iff {w : Str} : nameB w = true ↔ 1 ≤ w.length ∧ w.length ≤ 6 ∧ ∀ c ∈ TL.tl w, 97 ≤ c ∧ c < 123 := by
  unfold nameB
  rw [Bool.and_eq_true, Bool.and_eq_true, decide_eq_true_eq, decide_eq_true_eq, List.all_eq_true, and_assoc]
  exact and_congr_right fun _ => and_congr_right fun _ => ⟨fun h c hc => abc_in.mp (h c hc), fun h c hc => abc_in.mpr (h c hc)⟩
theorem labelB_iff {w : Str} : labelB w = true ↔ 1 ≤ w.length ∧ w.length ≤ 8 ∧ ∀ c ∈ TL.tl w, (97 ≤ c ∧ c < 123) ∨ (48 ≤ c ∧ c < 58) := by
  unfold labelB
  rw [Bool.and_eq_true, Bool.and_eq_true, decide_eq_true_eq, decide_eq_true_eq, List.all_eq_true, and_assoc]
  exact and_congr_right fun _ => and_congr_right fun _ => ⟨fun h c hc => labS_in.mp (h c hc), fun h c hc => labS_in.mpr (h c hc)⟩
theorem numS_name {n : Nat} : nameB (numS n) = false := by
  refine Bool.eq_false_iff.mpr fun h => ?_
  obtain ⟨_, _, h3⟩ := nameB_iff.mp h
  rw [numS_tl] at h3
  cases q : TL.numL n with
  | nil => exact TL.numL_ne n q
  | cons c cs =>
    have h1 := h3 c (by rw [q]; exact List.mem_cons_self ..)
    have h2 := TL.numL_digits n c (by rw [q]; exact List.mem_cons_self ..)
    omega
/-- a word that may stand in a text -/
structure Wd (w : Str) : Prop where
  l : w.length ≤ 600
  s : 32 ∉ TL.tl w
  n : 10 ∉ TL.tl w
  e : w ≠ "="
theorem eq_tl : TL.tl "=" = [61] := by decide +kernel
theorem Wd.of {w : Str} (hl : w.length ≤ 600) (h : ∀ c ∈ TL.tl w, (97 ≤ c ∧ c < 123) ∨ (48 ≤ c ∧ c < 58)) : Wd w where
  l := hl
  s := fun z => by have := h _ z; omega
  n := fun z => by have := h _ z; omega
  e := fun z => by
    rw [z, eq_tl] at h
    have := h 61 (List.mem_singleton.mpr rfl)
    omega
theorem Wd.name {w : Str} (h : nameB w = true) : Wd w := by
  obtain ⟨_, h2, h3⟩ := nameB_iff.mp h
  exact .of (by omega) fun c hc => .inl (h3 c hc)
theorem Wd.label {w : Str} (h : labelB w = true) : Wd w := by
  obtain ⟨_, h2, h3⟩ := labelB_iff.mp h
  exact .of (by omega) h3
theorem Wd.num {i : Int} (h : In40 i) : Wd (numS i) := by
  obtain ⟨n, rfl, hn⟩ := nat40 h
  refine .of (by have := numS_len hn; omega) fun c hc => ?_
  rw [numS_tl] at hc
  have := TL.numL_digits n c hc
  omega
def atmS : Atm → Str
  | .n i => numS i
  | .x s => s
def AtT : Atm → Prop
  | .n i => In40 i
  | .x s => nameB s = true
theorem AtT.v {a : Atm} (h : AtT a) : atomV (atmS a) = a.d := by
  cases a with
  | n i =>
    obtain ⟨n, rfl, hn⟩ := nat40 h
    show atomV (numS n) = _
    unfold atomV
    rw [numS_name, if_neg Bool.false_ne_true, numS_val hn]
    rfl
  | x s =>
    show atomV s = _
    unfold atomV
    rw [if_pos (show nameB s = true from h)]
    rfl
theorem AtT.w {a : Atm} (h : AtT a) : Wd (atmS a) := by
  cases a with
  | n i => exact .num h
  | x s => exact .name h
theorem AtT.non {a : Atm} : nonB a.d = false := by cases a <;> rfl
def RowT : PRow → Prop
  | .say a => AtT a
  | .copy x a => nameB x = true ∧ AtT a
  | .op x g a b => nameB x = true ∧ g ∈ signL ∧ AtT a ∧ AtT b
  | .load x c => nameB x = true ∧ nameB c = true
  | .store c a => nameB c = true ∧ AtT a
  | .take x s a => nameB x = true ∧ nameB s = true ∧ AtT a
  | .lay s a b => nameB s = true ∧ AtT a ∧ AtT b
  | .hear x => nameB x = true
  | .ifr a _ => AtT a
  | .go _ => True
  | .endr a => AtT a
/-- the words of a row, a label in the place of a number -/
def wordsR (l : Str) : PRow → List Str
  | .say a => ["say", atmS a]
  | .copy x a => [x, "=", atmS a]
  | .op x g a b => [x, "=", atmS a, g, atmS b]
  | .load x c => ["load", x, c]
  | .store c a => ["store", c, atmS a]
  | .take x s a => ["take", x, s, atmS a]
  | .lay s a b => ["lay", s, atmS a, atmS b]
  | .hear x => ["hear", x]
  | .ifr a _ => ["if", atmS a, l]
  | .go _ => ["go", l]
  | .endr a => ["end", atmS a]
theorem part_n {w : Str} (h : nameB w = true) : partV w "n" = .str w := by
  unfold partV
  rw [if_neg (by decide +kernel), if_pos (.inl ⟨rfl, h⟩)]
theorem part_l {w : Str} (h : labelB w = true) : partV w "l" = .str w := by
  unfold partV
  rw [if_neg (by decide +kernel), if_pos (.inr ⟨rfl, h⟩)]
theorem part_a {a : Atm} (h : AtT a) : partV (atmS a) "a" = a.d := by
  unfold partV
  rw [if_pos rfl, h.v]
def allParts (ps : List Str) (fs : Str) : List DV := (List.zip ps fs.cps.toList).map fun p => partV p.1 ⟨#[p.2]⟩
theorem rowV_form {k fs : Str} {ps : List Str} {vs : List DV} (hf : formsV k = fs) (he : wAt ps 0 ≠ "=") (hl : ps.length = fs.length) (h0 : fs ≠ "") (hv : allParts ps fs = vs) (hn : vs.any nonB = false) : rowV (k :: ps) = .tup (.str k :: vs) := by
  have e0 : wAt (k :: ps) 0 = k := rfl
  have e1 : wAt (k :: ps) 1 = wAt ps 0 := rfl
  have ep : partsV (k :: ps) fs = vs := hv
  unfold rowV
  rw [e0, e1, hf, ep, if_neg fun z => he z.2, if_neg (by
    rintro (z | z)
    · exact h0 z
    · exact z (by rw [List.length_cons, hl])), if_neg (by rw [hn]; exact Bool.false_ne_true)]
end Lk12

namespace Lk12
open PySem PySem.Spec PyProof.Rows L2 Dn
/-! ### what is written is read: rows -/
theorem rowV_words {r : PRow} {l : Str} (h : RowT r) (hl : labelB l = true) : rowV (wordsR l r) = lrD r l ∧ nonB (lrD r l) = false := by
  cases r with
  | copy x a =>
    obtain ⟨hx, ha⟩ := h
    refine ⟨?_, rfl⟩
    have h2 : wAt (wordsR l (.copy x a)) 2 = atmS a := rfl
    have h0 : wAt (wordsR l (.copy x a)) 0 = x := rfl
    have h5 : (wordsR l (.copy x a)).length = 3 := rfl
    unfold rowV
    rw [if_pos ⟨by rw [h5]; decide, rfl⟩]
    unfold givenV
    rw [h2, h0, h5, ha.v, hx, AtT.non, if_neg (by rintro (z | z) <;> exact absurd z (by decide)), if_pos rfl]
    rfl
  | op x g a b =>
    obtain ⟨hx, hg, ha, hb⟩ := h
    refine ⟨?_, rfl⟩
    have h2 : wAt (wordsR l (.op x g a b)) 2 = atmS a := rfl
    have h4 : wAt (wordsR l (.op x g a b)) 4 = atmS b := rfl
    have h3 : wAt (wordsR l (.op x g a b)) 3 = g := rfl
    have h0 : wAt (wordsR l (.op x g a b)) 0 = x := rfl
    have h5 : (wordsR l (.op x g a b)).length = 5 := rfl
    unfold rowV
    rw [if_pos ⟨by rw [h5]; decide, rfl⟩]
    unfold givenV
    rw [h2, h0, h3, h4, h5, ha.v, hb.v, hx, AtT.non, AtT.non, if_neg (by rintro (z | z) <;> exact absurd z (by decide)), if_neg (by decide), if_neg (by
      rintro (z | z | z)
      · exact z rfl
      · exact z hg
      · exact absurd z (by decide))]
    rfl
  | say a =>
    have h : AtT a := h
    refine ⟨rowV_form (k := "say") (fs := "a") (ps := [atmS a]) (vs := [a.d]) (by decide +kernel) h.w.e rfl (by decide +kernel) ?_ (by simp [AtT.non]), rfl⟩
    show [partV (atmS a) "a"] = _
    rw [part_a h]
  | endr a =>
    have h : AtT a := h
    refine ⟨rowV_form (k := "end") (fs := "a") (ps := [atmS a]) (vs := [a.d]) (by decide +kernel) h.w.e rfl (by decide +kernel) ?_ (by simp [AtT.non]), rfl⟩
    show [partV (atmS a) "a"] = _
    rw [part_a h]
  | load x c =>
    obtain ⟨hx, hc⟩ := h
    refine ⟨rowV_form (k := "load") (fs := "nn") (ps := [x, c]) (vs := [.str x, .str c]) (by decide +kernel) (Wd.name hx).e rfl (by decide +kernel) ?_ rfl, rfl⟩
    show [partV x "n", partV c "n"] = _
    rw [part_n hx, part_n hc]
  | store c a =>
    obtain ⟨hc, ha⟩ := h
    refine ⟨rowV_form (k := "store") (fs := "na") (ps := [c, atmS a]) (vs := [.str c, a.d]) (by decide +kernel) (Wd.name hc).e rfl (by decide +kernel) ?_ (by simp [AtT.non, Dn.isNon]), rfl⟩
    show [partV c "n", partV (atmS a) "a"] = _
    rw [part_n hc, part_a ha]
  | take x s a =>
    obtain ⟨hx, hs, ha⟩ := h
    refine ⟨rowV_form (k := "take") (fs := "nna") (ps := [x, s, atmS a]) (vs := [.str x, .str s, a.d]) (by decide +kernel) (Wd.name hx).e rfl (by decide +kernel) ?_ (by simp [AtT.non, Dn.isNon]), rfl⟩
    show [partV x "n", partV s "n", partV (atmS a) "a"] = _
    rw [part_n hx, part_n hs, part_a ha]
  | lay s a b =>
    obtain ⟨hs, ha, hb⟩ := h
    refine ⟨rowV_form (k := "lay") (fs := "naa") (ps := [s, atmS a, atmS b]) (vs := [.str s, a.d, b.d]) (by decide +kernel) (Wd.name hs).e rfl (by decide +kernel) ?_ (by simp [AtT.non, Dn.isNon]), rfl⟩
    show [partV s "n", partV (atmS a) "a", partV (atmS b) "a"] = _
    rw [part_n hs, part_a ha, part_a hb]
  | hear x =>
    have h : nameB x = true := h
    refine ⟨rowV_form (k := "hear") (fs := "n") (ps := [x]) (vs := [.str x]) (by decide +kernel) (Wd.name h).e rfl (by decide +kernel) ?_ rfl, rfl⟩
    show [partV x "n"] = _
    rw [part_n h]
  | ifr a n =>
    have h : AtT a := h
    refine ⟨rowV_form (k := "if") (fs := "al") (ps := [atmS a, l]) (vs := [a.d, .str l]) (by decide +kernel) h.w.e rfl (by decide +kernel) ?_ (by simp [AtT.non, Dn.isNon]), rfl⟩
    show [partV (atmS a) "a", partV l "l"] = _
    rw [part_a h, part_l hl]
  | go n =>
    refine ⟨rowV_form (k := "go") (fs := "l") (ps := [l]) (vs := [.str l]) (by decide +kernel) (Wd.label hl).e rfl (by decide +kernel) ?_ rfl, rfl⟩
    show [partV l "l"] = _
    rw [part_l hl]
theorem item_row {r : PRow} {l : Str} {b : Bool} (h : RowT r) (hl : labelB l = true) : itemV (wordsR l r) b = (Itm.row r l).d := by
  obtain ⟨e1, e2⟩ := rowV_words h hl
  unfold itemV
  rw [e1, e2, if_pos ?_]
  · rfl
  · cases r
    case copy => exact .inl ⟨show 2 < 3 by decide, rfl⟩
    case op => exact .inl ⟨show 2 < 5 by decide, rfl⟩
    case say => exact .inr (show ("say" : Str) ∉ (["cell", "twin", "shelf", "twins", "at"] : List Str) by decide +kernel)
    case load => exact .inr (show ("load" : Str) ∉ (["cell", "twin", "shelf", "twins", "at"] : List Str) by decide +kernel)
    case store => exact .inr (show ("store" : Str) ∉ (["cell", "twin", "shelf", "twins", "at"] : List Str) by decide +kernel)
    case take => exact .inr (show ("take" : Str) ∉ (["cell", "twin", "shelf", "twins", "at"] : List Str) by decide +kernel)
    case lay => exact .inr (show ("lay" : Str) ∉ (["cell", "twin", "shelf", "twins", "at"] : List Str) by decide +kernel)
    case hear => exact .inr (show ("hear" : Str) ∉ (["cell", "twin", "shelf", "twins", "at"] : List Str) by decide +kernel)
    case ifr => exact .inr (show ("if" : Str) ∉ (["cell", "twin", "shelf", "twins", "at"] : List Str) by decide +kernel)
    case go => exact .inr (show ("go" : Str) ∉ (["cell", "twin", "shelf", "twins", "at"] : List Str) by decide +kernel)
    case endr => exact .inr (show ("end" : Str) ∉ (["cell", "twin", "shelf", "twins", "at"] : List Str) by decide +kernel)
theorem item_lab {l : Str} {b : Bool} (hl : labelB l = true) : itemV ["at", l] b = (Itm.lab l).d := by
  have h0 : wAt ["at", l] 0 = "at" := rfl
  have h1 : wAt ["at", l] 1 = l := rfl
  unfold itemV
  rw [h0, h1, hl, if_neg (by
    rintro (⟨z, _⟩ | z)
    · exact absurd z (show ¬ 2 < 2 by decide)
    · exact absurd z (by decide +kernel)), if_pos rfl, if_neg (by
    rintro (z | z)
    · exact z rfl
    · exact absurd z (by decide))]
  rfl
def headS (sh tw : Bool) : Str := if sh then (if tw then "twins" else "shelf") else (if tw then "twin" else "cell")
theorem told_head {sh tw : Bool} {x : Str} {i : Int} (hx : nameB x = true) (hi : In40 i) (h8 : sh = true → 1 ≤ i ∧ i ≤ 8) : toldV [headS sh tw, x, numS i] = trD (x, i, tw) := by
  obtain ⟨n, rfl, hn⟩ := nat40 hi
  have h0 : wAt [headS sh tw, x, numS n] 0 = headS sh tw := rfl
  have h1 : wAt [headS sh tw, x, numS n] 1 = x := rfl
  have h2 : wAt [headS sh tw, x, numS n] 2 = numS n := rfl
  unfold toldV
  rw [h0, h1, h2, numS_val hn, hx, if_neg (by
    rintro (z | z | z)
    · exact z rfl
    · exact absurd z (by decide)
    · exact Bool.false_ne_true z)]
  dsimp only
  rw [if_neg (by
    rintro ⟨z, k⟩
    cases sh with
    | true => exact k (h8 rfl)
    | false => cases tw <;> exact absurd z (by decide +kernel))]
  rw [show decide (headS sh tw = "twin" ∨ headS sh tw = "twins") = tw by cases sh <;> cases tw <;> decide +kernel]
theorem item_head {sh tw : Bool} {x : Str} {i : Int} (hx : nameB x = true) (hi : In40 i) (h8 : sh = true → 1 ≤ i ∧ i ≤ 8) : itemV [headS sh tw, x, numS i] false = (if sh then Itm.shelf (x, i, tw) else Itm.cell (x, i, tw)).d := by
  have h0 : wAt [headS sh tw, x, numS i] 0 = headS sh tw := rfl
  have h1 : wAt [headS sh tw, x, numS i] 1 = x := rfl
  unfold itemV
  rw [h0, h1, told_head hx hi h8, if_neg (by
    rintro (⟨_, z⟩ | z)
    · exact (Wd.name hx).e z
    · exact z (by cases sh <;> cases tw <;> decide +kernel)), if_neg (by cases sh <;> cases tw <;> decide +kernel), if_neg (by
    rintro (z | z)
    · exact absurd z (by show ¬ isNon (trD _) = true; exact Bool.false_ne_true)
    · exact absurd z (by decide))]
  cases sh with
  | true => rw [if_neg (by cases tw <;> decide +kernel)]; rfl
  | false => rw [if_pos (by cases tw <;> decide +kernel)]; rfl
end Lk12

namespace Lk12
open PySem PySem.Spec PyProof.Rows L2 Dn
/-! ### what is written is read: texts -/
def Itm.ws : Itm → List Str
  | .cell c => [headS false c.2.2, c.1, numS c.2.1]
  | .shelf c => [headS true c.2.2, c.1, numS c.2.1]
  | .lab s => ["at", s]
  | .row r l => wordsR l r
def ItT : Itm → Prop
  | .cell c => nameB c.1 = true ∧ In40 c.2.1
  | .shelf c => nameB c.1 = true ∧ 1 ≤ c.2.1 ∧ c.2.1 ≤ 8
  | .lab s => labelB s = true
  | .row r l => RowT r ∧ labelB l = true
theorem in8 {i : Int} (h : 1 ≤ i ∧ i ≤ 8) : In40 i := ⟨by omega, by show i < _; have := h.2; exact Int.lt_of_le_of_lt this (by decide)⟩
theorem item_ok {it : Itm} {b : Bool} (h : ItT it) (hb : it.beg = false → b = false) : itemV it.ws b = it.d := by
  cases it with
  | cell c =>
    rw [hb rfl]
    exact item_head (sh := false) h.1 h.2 (fun z => absurd z Bool.false_ne_true)
  | shelf c =>
    rw [hb rfl]
    exact item_head (sh := true) h.1 (in8 h.2) (fun _ => h.2)
  | lab s => exact item_lab h
  | row r l => exact item_row h.1 h.2
/-- a word that cuts into one -/
structure Sw (w : Str) : Prop where
  l : w.length ≤ 600
  s : 32 ∉ TL.tl w
  n : 10 ∉ TL.tl w
theorem Wd.sw {w : Str} (h : Wd w) : Sw w := ⟨h.l, h.s, h.n⟩
theorem sw_const : ∀ w ∈ (["=", "say", "load", "store", "take", "lay", "hear", "if", "go", "end", "at", "cell", "twin", "shelf", "twins", "+", "-", "*", "<", "&", "|", "^"] : List Str), Sw w := fun w hw => by
  have h : ∀ w ∈ (["=", "say", "load", "store", "take", "lay", "hear", "if", "go", "end", "at", "cell", "twin", "shelf", "twins", "+", "-", "*", "<", "&", "|", "^"] : List Str), w.length ≤ 600 ∧ 32 ∉ TL.tl w ∧ 10 ∉ TL.tl w := by decide +kernel
  exact ⟨(h w hw).1, (h w hw).2.1, (h w hw).2.2⟩
theorem sw_sign {g : Str} (h : g ∈ signL) : Sw g := sw_const g (by
  simp only [signL, List.mem_cons, List.not_mem_nil, or_false] at h
  simp only [List.mem_cons, List.not_mem_nil, or_false]
  rcases h with h | h | h | h | h | h | h | h <;> simp [h])
theorem wordsR_sw {r : PRow} {l : Str} (h : RowT r) (hl : labelB l = true) : ∀ w ∈ wordsR l r, Sw w := by
  have k : ∀ {w : Str}, w ∈ (["=", "say", "load", "store", "take", "lay", "hear", "if", "go", "end"] : List Str) → Sw w := fun {w} hw => sw_const w (by
    simp only [List.mem_cons, List.not_mem_nil, or_false] at hw ⊢
    rcases hw with h | h | h | h | h | h | h | h | h | h <;> simp [h])
  have sl := (Wd.label hl).sw
  cases r with
  | say a => exact List.forall_mem_cons.mpr ⟨k (by simp), List.forall_mem_cons.mpr ⟨(show AtT a from h).w.sw, fun _ z => nomatch z⟩⟩
  | endr a => exact List.forall_mem_cons.mpr ⟨k (by simp), List.forall_mem_cons.mpr ⟨(show AtT a from h).w.sw, fun _ z => nomatch z⟩⟩
  | hear x => exact List.forall_mem_cons.mpr ⟨k (by simp), List.forall_mem_cons.mpr ⟨(Wd.name (show nameB x = true from h)).sw, fun _ z => nomatch z⟩⟩
  | go n => exact List.forall_mem_cons.mpr ⟨k (by simp), List.forall_mem_cons.mpr ⟨sl, fun _ z => nomatch z⟩⟩
  | ifr a n => exact List.forall_mem_cons.mpr ⟨k (by simp), List.forall_mem_cons.mpr ⟨(show AtT a from h).w.sw, List.forall_mem_cons.mpr ⟨sl, fun _ z => nomatch z⟩⟩⟩
  | copy x a => exact List.forall_mem_cons.mpr ⟨(Wd.name h.1).sw, List.forall_mem_cons.mpr ⟨k (by simp), List.forall_mem_cons.mpr ⟨h.2.w.sw, fun _ z => nomatch z⟩⟩⟩
  | load x c => exact List.forall_mem_cons.mpr ⟨k (by simp), List.forall_mem_cons.mpr ⟨(Wd.name h.1).sw, List.forall_mem_cons.mpr ⟨(Wd.name h.2).sw, fun _ z => nomatch z⟩⟩⟩
  | store c a => exact List.forall_mem_cons.mpr ⟨k (by simp), List.forall_mem_cons.mpr ⟨(Wd.name h.1).sw, List.forall_mem_cons.mpr ⟨h.2.w.sw, fun _ z => nomatch z⟩⟩⟩
  | take x s a => exact List.forall_mem_cons.mpr ⟨k (by simp), List.forall_mem_cons.mpr ⟨(Wd.name h.1).sw, List.forall_mem_cons.mpr ⟨(Wd.name h.2.1).sw, List.forall_mem_cons.mpr ⟨h.2.2.w.sw, fun _ z => nomatch z⟩⟩⟩⟩
  | lay s a b => exact List.forall_mem_cons.mpr ⟨k (by simp), List.forall_mem_cons.mpr ⟨(Wd.name h.1).sw, List.forall_mem_cons.mpr ⟨h.2.1.w.sw, List.forall_mem_cons.mpr ⟨h.2.2.w.sw, fun _ z => nomatch z⟩⟩⟩⟩
  | op x g a b => exact List.forall_mem_cons.mpr ⟨(Wd.name h.1).sw, List.forall_mem_cons.mpr ⟨k (by simp), List.forall_mem_cons.mpr ⟨h.2.2.1.w.sw, List.forall_mem_cons.mpr ⟨sw_sign h.2.1, List.forall_mem_cons.mpr ⟨h.2.2.2.w.sw, fun _ z => nomatch z⟩⟩⟩⟩⟩
theorem item_sw {it : Itm} (h : ItT it) : (∀ w ∈ it.ws, Sw w) ∧ 0 < it.ws.length ∧ it.ws.length ≤ 5 := by
  have hd : ∀ sh tw, Sw (headS sh tw) := fun sh tw => sw_const _ (by cases sh <;> cases tw <;> simp [headS])
  cases it with
  | cell c => exact ⟨List.forall_mem_cons.mpr ⟨hd _ _, List.forall_mem_cons.mpr ⟨(Wd.name h.1).sw, List.forall_mem_cons.mpr ⟨(Wd.num h.2).sw, fun _ z => nomatch z⟩⟩⟩, show 0 < 3 by decide, show 3 ≤ 5 by decide⟩
  | shelf c => exact ⟨List.forall_mem_cons.mpr ⟨hd _ _, List.forall_mem_cons.mpr ⟨(Wd.name h.1).sw, List.forall_mem_cons.mpr ⟨(Wd.num (in8 h.2)).sw, fun _ z => nomatch z⟩⟩⟩, show 0 < 3 by decide, show 3 ≤ 5 by decide⟩
  | lab s => exact ⟨List.forall_mem_cons.mpr ⟨sw_const _ (by simp), List.forall_mem_cons.mpr ⟨(Wd.label h).sw, fun _ z => nomatch z⟩⟩, show 0 < 2 by decide, show 2 ≤ 5 by decide⟩
  | row r l =>
    refine ⟨wordsR_sw h.1 h.2, ?_, ?_⟩
    · show 0 < (wordsR l r).length
      cases r <;> exact Nat.succ_pos _
    · show (wordsR l r).length ≤ 5
      cases r <;> simp [wordsR]
theorem joinL_len {S : List Nat} {m : Nat} : ∀ {ps : List (List Nat)}, (∀ p ∈ ps, p.length ≤ m) → (TL.joinL S ps).length ≤ ps.length * (m + S.length)
  | [], _ => Nat.zero_le _
  | [p], h => by
    show p.length ≤ _
    have := h p (List.mem_cons_self ..)
    simp
    omega
  | p :: q :: r, h => by
    show (p ++ (S ++ TL.joinL S (q :: r))).length ≤ _
    have h1 := h p (List.mem_cons_self ..)
    have h2 := joinL_len (S := S) (m := m) (ps := q :: r) fun z hz => h z (List.mem_cons_of_mem _ hz)
    rw [List.length_append, List.length_append, List.length_cons, Nat.succ_mul]
    omega
theorem joinL_mem {S : List Nat} {c : Nat} : ∀ {ps : List (List Nat)}, c ∈ TL.joinL S ps → c ∈ S ∨ ∃ p ∈ ps, c ∈ p
  | [], h => nomatch h
  | [p], h => .inr ⟨p, List.mem_cons_self .., h⟩
  | p :: q :: r, h => by
    have h : c ∈ p ++ (S ++ TL.joinL S (q :: r)) := h
    rcases List.mem_append.mp h with z | z
    · exact .inr ⟨p, List.mem_cons_self .., z⟩
    · rcases List.mem_append.mp z with z | z
      · exact .inl z
      · rcases joinL_mem z with z | ⟨x, hx, z⟩
        · exact .inl z
        · exact .inr ⟨x, List.mem_cons_of_mem _ hx, z⟩
theorem join_len {y : Str} {ps : List Str} {m : Nat} (h : ∀ p ∈ ps, p.length ≤ m) : (Txt.join y ps).length ≤ ps.length * (m + y.length) := by
  rw [TL.len_tl, TL.join_eq, TL.tl_join, TL.len_tl y, ← List.length_map (f := TL.tl) (as := ps)]
  exact joinL_len fun p hp => by
    obtain ⟨w, hw, rfl⟩ := List.mem_map.mp hp
    rw [← TL.len_tl]
    exact h w hw
theorem ln_ok {ws : List Str} (h : ∀ w ∈ ws, Sw w) (h5 : ws.length ≤ 5) : (lnS ws).length ≤ 4000 ∧ 10 ∉ TL.tl (lnS ws) := by
  have e1 : (" " : Str).length = 1 := by decide +kernel
  constructor
  · have := join_len (y := " ") (ps := ws) (m := 600) fun p hp => (h p hp).l
    rw [e1] at this
    unfold lnS
    have h6 : ws.length * 601 ≤ 5 * 601 := Nat.mul_le_mul_right _ h5
    omega
  · intro z
    unfold lnS at z
    rw [TL.join_eq, TL.tl_join] at z
    rcases joinL_mem z with z | ⟨p, hp, z⟩
    · exact absurd z (by decide +kernel)
    · obtain ⟨w, hw, rfl⟩ := List.mem_map.mp hp
      exact (h w hw).n z
theorem item_ln {it : Itm} (h : ItT it) : WsLn it.ws ∧ (lnS it.ws).length ≤ 4000 ∧ 10 ∉ TL.tl (lnS it.ws) := by
  obtain ⟨h1, h2, h3⟩ := item_sw h
  exact ⟨⟨⟨by omega, fun w hw => (h1 w hw).l, h2⟩, fun w hw => (h1 w hw).s, fun w hw => (h1 w hw).n⟩, ln_ok h1 h3⟩
theorem reads_body : ∀ {its : List Itm} (b : Bool), (∀ it ∈ its, ItT it ∧ it.beg = true) → Reads b (its.map Itm.ws) its
  | [], b, _ => .nil b
  | it :: its, b, h => by
    obtain ⟨h1, h2⟩ := h it (List.mem_cons_self ..)
    obtain ⟨w, z, _⟩ := item_ln h1
    exact .cons w (by omega) (item_ok h1 fun q => by rw [h2] at q; exact absurd q (by decide)) (reads_body _ fun x hx => h x (List.mem_cons_of_mem _ hx))
theorem reads_all {body : List Itm} (hb : ∀ it ∈ body, ItT it ∧ it.beg = true) : ∀ {heads : List Itm}, (∀ it ∈ heads, ItT it ∧ it.beg = false) → Reads false ((heads ++ body).map Itm.ws) (heads ++ body)
  | [], _ => reads_body false hb
  | it :: its, h => by
    obtain ⟨h1, h2⟩ := h it (List.mem_cons_self ..)
    obtain ⟨w, z, _⟩ := item_ln h1
    refine .cons w (by omega) (item_ok h1 fun _ => rfl) ?_
    rw [h2]
    exact reads_all hb fun x hx => h x (List.mem_cons_of_mem _ hx)
def textS (its : List Itm) : Str := Txt.join "\n" (its.map fun it => lnS it.ws)
theorem text_ok {its : List Itm} (h : ∀ it ∈ its, ItT it) (h0 : its ≠ []) (hz : its.length ≤ 200) : Txt.split (textS its) "\n" = (its.map Itm.ws).map lnS ∧ (textS its).length ≤ 900000 := by
  constructor
  · rw [List.map_map]
    exact TL.split_join (y := ("\n" : Str)) (s := 10) (S := []) (by decide +kernel) (by decide +kernel) (fun e => h0 (List.map_eq_nil_iff.mp e)) fun p hp => by
      obtain ⟨it, hit, rfl⟩ := List.mem_map.mp hp
      exact (item_ln (h it hit)).2.2
  · have e1 : ("\n" : Str).length = 1 := by decide +kernel
    have := join_len (y := "\n") (ps := its.map fun it => lnS it.ws) (m := 4000) fun p hp => by
      obtain ⟨it, hit, rfl⟩ := List.mem_map.mp hp
      exact (item_ln (h it hit)).2.1
    rw [e1, List.length_map] at this
    unfold textS
    have h6 : its.length * 4001 ≤ 200 * 4001 := Nat.mul_le_mul_right _ hz
    omega
/-- a text with cells, shelves and rows is read -/
theorem read_all {cells shelves : List Trd} {body : List Itm} {rows : List PRow} (hc : ∀ c ∈ cells, nameB c.1 = true ∧ In40 c.2.1) (hs : ∀ c ∈ shelves, nameB c.1 = true ∧ 1 ≤ c.2.1 ∧ c.2.1 ≤ 8) (hb : ∀ it ∈ body, ItT it ∧ it.beg = true) (h0 : body ≠ [])
    (hn : (cells.map (·.1) ++ shelves.map (·.1)).Nodup) (hl : ((body.map Itm.lbs).flatten).Nodup) (hr : ∀ r s, Itm.row r s ∈ body → lrOk (seatL body 0) r s) (er : (body.filter fun it : Itm => decide (it.srt = ("row" : Str))).map Itm.fin = rows.map PRow.d) (hz : cells.length + shelves.length + body.length ≤ 200) :
    pureOf F_read [.str (textS ((cells.map Itm.cell ++ shelves.map Itm.shelf) ++ body))] = some (.tup [.tup (cells.map trD), .tup (shelves.map trD), .tup (rows.map PRow.d)]) := by
  have hh : ∀ it ∈ cells.map Itm.cell ++ shelves.map Itm.shelf, ItT it ∧ it.beg = false := fun it hit => by
    rcases List.mem_append.mp hit with z | z
    · obtain ⟨c, hcc, rfl⟩ := List.mem_map.mp z
      exact ⟨hc c hcc, rfl⟩
    · obtain ⟨c, hcc, rfl⟩ := List.mem_map.mp z
      exact ⟨hs c hcc, rfl⟩
  have hall : ∀ it ∈ (cells.map Itm.cell ++ shelves.map Itm.shelf) ++ body, ItT it := fun it hit => by
    rcases List.mem_append.mp hit with z | z
    · exact (hh it z).1
    · exact (hb it z).1
  have hne : (cells.map Itm.cell ++ shelves.map Itm.shelf) ++ body ≠ [] := fun e => h0 (List.append_eq_nil_iff.mp e).2
  have hlen : ((cells.map Itm.cell ++ shelves.map Itm.shelf) ++ body).length ≤ 200 := by simp; omega
  obtain ⟨t1, t2⟩ := text_ok hall hne hlen
  have s1 : ∀ (l : List Trd) (n : Nat) (m : List Itm), seatL (l.map Itm.cell ++ m) n = seatL m n := fun l n m => by
    induction l with
    | nil => rfl
    | cons a l ih => exact ih
  have s2 : ∀ (l : List Trd) (n : Nat) (m : List Itm), seatL (l.map Itm.shelf ++ m) n = seatL m n := fun l n m => by
    induction l with
    | nil => rfl
    | cons a l ih => exact ih
  have hseat : seatL ((cells.map Itm.cell ++ shelves.map Itm.shelf) ++ body) 0 = seatL body 0 := by rw [List.append_assoc, s1, s2]
  have l1 : ∀ (l : List Trd), ((l.map Itm.cell).map Itm.lbs).flatten = [] ∧ ((l.map Itm.shelf).map Itm.lbs).flatten = [] ∧ ((l.map Itm.cell).map Itm.nms).flatten = l.map (·.1) ∧ ((l.map Itm.shelf).map Itm.nms).flatten = l.map (·.1) := fun l => by
    induction l with
    | nil => exact ⟨rfl, rfl, rfl, rfl⟩
    | cons a l ih =>
      obtain ⟨a1, a2, a3, a4⟩ := ih
      exact ⟨a1, a2, by simp only [List.map_cons, List.flatten_cons, a3, Itm.nms]; rfl, by simp only [List.map_cons, List.flatten_cons, a4, Itm.nms]; rfl⟩
  have nb : ((body.map Itm.nms).flatten) = [] := by
    rw [List.flatten_eq_nil_iff]
    intro x hx
    obtain ⟨it, hit, rfl⟩ := List.mem_map.mp hx
    have := (hb it hit).2
    cases it with
    | cell c => exact absurd this Bool.false_ne_true
    | shelf c => exact absurd this Bool.false_ne_true
    | lab s => rfl
    | row r l => rfl
  have fb : ∀ s : Str, s ≠ "row" → s ≠ "label" → body.filter (fun it : Itm => decide (it.srt = s)) = [] := fun s h1 h2 => List.filter_eq_nil_iff.mpr fun it hit => by
    have := (hb it hit).2
    rw [decide_eq_true_eq]
    cases it with
    | cell c => exact absurd this Bool.false_ne_true
    | shelf c => exact absurd this Bool.false_ne_true
    | lab s => exact fun z => h2 z.symm
    | row r l => exact fun z => h1 z.symm
  have fc : ∀ (l : List Trd) (s : Str), (l.map Itm.cell).filter (fun it : Itm => decide (it.srt = s)) = if s = "cell" then l.map Itm.cell else [] := fun l s => by
    split
    · rename_i h
      exact List.filter_eq_self.mpr fun it hit => by
        obtain ⟨c, _, rfl⟩ := List.mem_map.mp hit
        exact decide_eq_true h.symm
    · rename_i h
      exact List.filter_eq_nil_iff.mpr fun it hit => by
        obtain ⟨c, _, rfl⟩ := List.mem_map.mp hit
        rw [decide_eq_true_eq]
        exact fun z => h z.symm
  have fs : ∀ (l : List Trd) (s : Str), (l.map Itm.shelf).filter (fun it : Itm => decide (it.srt = s)) = if s = "shelf" then l.map Itm.shelf else [] := fun l s => by
    split
    · rename_i h
      exact List.filter_eq_self.mpr fun it hit => by
        obtain ⟨c, _, rfl⟩ := List.mem_map.mp hit
        exact decide_eq_true h.symm
    · rename_i h
      exact List.filter_eq_nil_iff.mpr fun it hit => by
        obtain ⟨c, _, rfl⟩ := List.mem_map.mp hit
        rw [decide_eq_true_eq]
        exact fun z => h z.symm
  refine tx_read_eq (reads_all hb hh) (fun e => hne (List.map_eq_nil_iff.mp e)) t1 t2 (by omega) ?_ ?_ ?_ ?_ ?_ ?_
  · rw [List.map_append, List.map_append, List.flatten_append, List.flatten_append, (l1 cells).2.2.1, (l1 shelves).2.2.2, nb, List.append_nil]
    exact hn
  · rw [List.map_append, List.map_append, List.flatten_append, List.flatten_append, (l1 cells).1, (l1 shelves).2.1]
    exact hl
  · intro r s hm
    rw [hseat]
    rcases List.mem_append.mp hm with z | z
    · rcases List.mem_append.mp z with z | z
      · obtain ⟨c, _, q⟩ := List.mem_map.mp z
        exact nomatch q
      · obtain ⟨c, _, q⟩ := List.mem_map.mp z
        exact nomatch q
    · exact hr r s z
  · rw [List.filter_append, List.filter_append, fc, fs, fb "cell" (by decide +kernel) (by decide +kernel), if_pos rfl, if_neg (by decide +kernel), List.append_nil, List.append_nil, List.map_map]
    rfl
  · rw [List.filter_append, List.filter_append, fc, fs, fb "shelf" (by decide +kernel) (by decide +kernel), if_neg (by decide +kernel), if_pos rfl, List.append_nil, List.nil_append, List.map_map]
    rfl
  · rw [List.filter_append, List.filter_append, fc, fs, if_neg (by decide +kernel), if_neg (by decide +kernel)]
    exact er
end Lk12

namespace Lk12
open PySem PySem.Spec PyProof.Rows L2 Dn
def w_ps : List Int := [10007, 10009, 10037, 10039, 10061, 10067, 10069, 10079]
theorem w_ps_pos : ∀ r, r < 8 → 0 < w_ps.getD r 0 := by decide
def w_pt (c : Int) (j : Nat) (m : Int) : Int := (c * 48271 + 7919 * (j : Int)) % w_ps.getD (j % 8) 0 % m
theorem w_pt_in {c : Int} {j : Nat} {m : Int} (hm : 0 < m) : 0 ≤ w_pt c j m ∧ w_pt c j m < m := ⟨Int.emod_nonneg _ (by omega), Int.emod_lt_of_pos _ hm⟩
theorem w_part (c : Int) (j : Nat) (m : Int) (hm : 0 < m) : pureOf F_law_part [.int c, .int (j : Nat), .int m] = some (.int (w_pt c j m)) := by
  let N (x3 : Option DV) : List (Option DV) := [some (.int c), some (.int (j : Nat)), some (.int m), x3]
  let P : DV := .tup (w_ps.map .int)
  have s3 : dSet 3 (dPrim pTup (aCons (dC (.int 10007)) (aCons (dC (.int 10009)) (aCons (dC (.int 10037)) (aCons (dC (.int 10039)) (aCons (dC (.int 10061)) (aCons (dC (.int 10067)) (aCons (dC (.int 10069)) (aCons (dC (.int 10079)) aNil))))))))) (N none) ([] : Sto) = some (.nx (N (some P)) []) := rfl
  have hr : j % 8 < 8 := Nat.mod_lt _ (by decide)
  have ix : dBin pIx (dVar 3) (dBin pMod (dVar 1) (dC (.int 8))) (N (some P)) ([] : Sto) = some (.int (w_ps.getD (j % 8) 0), []) := by
    have e : dBin pMod (dVar 1) (dC (.int 8)) (N (some P)) ([] : Sto) = some (.int ((j % 8 : Nat) : Int), []) := by
      rw [show ((j % 8 : Nat) : Int) = (j : Int) % 8 by omega]
      exact modI_of (a := (j : Nat)) (b := 8) rfl rfl (by decide)
    refine bin_of (x := P) rfl e (ix_tup (atD_nat ?_))
    rw [List.getElem?_map, List.getD_eq_getElem?_getD, List.getElem?_eq_getElem (show j % 8 < w_ps.length from hr)]; rfl
  have ad : dBin pAdd (dBin pMul (dVar 0) (dC (.int 48271))) (dBin pMul (dC (.int 7919)) (dVar 1)) (N (some P)) ([] : Sto) = some (.int (c * 48271 + 7919 * (j : Int)), []) :=
    addI_of (bin_of (x := .int c) (y := .int 48271) rfl rfl (v_mulI (by decide))) (bin_of (x := .int 7919) (y := .int (j : Nat)) rfl rfl (v_mulIl (by decide)))
  exact pureOf_of (S' := []) (run_rt rfl ((seq_nx s3).trans (ret_of (modI_of (modI_of ad ix (w_ps_pos _ hr)) (b := m) rfl hm)))) rfl
theorem w_part_of {f g e : DE} {ρ : List (Option DV)} {S S1 S2 S3 : Sto} {c m : Int} {j : Nat} (h1 : f ρ S = some (.int c, S1)) (h2 : g ρ S1 = some (.int (j : Nat), S2)) (h3 : e ρ S2 = some (.int m, S3)) (hm : 0 < m) : dPrim (cP (pureOf F_law_part) []) (aCons f (aCons g (aCons e aNil))) ρ S = some (.int (w_pt c j m), S3) :=
  callPP (args3 h1 h2 h3) rfl (w_part c j m hm)
theorem w_cell (k : LK) (ns : List Int) (i : Nat) (hi : i < 100) : ∃ x : Int, pureOf F_law_cell [.lst k (ns.map .int), .int (i : Nat)] = some (.int x) := by
  let Sc : DV := .lst k (ns.map .int)
  let N (x2 : Option DV) : List (Option DV) := [some Sc, some (.int (i : Nat)), x2]
  have ln : ∀ {x2}, dPrim pLen (aCons (dVar 0) aNil) (N x2) ([] : Sto) = some (.int (ns.length : Nat), []) := fun {x2} => by
    have := lenL_of (f := dVar 0) (ρ := N x2) (S := []) (k := k) (xs := ns.map .int) rfl
    rw [List.length_map] at this
    exact this
  have at_ : ∀ {j : Nat} {x2 : Option DV} {e : DE}, j < ns.length → e (N x2) ([] : Sto) = some (.int (j : Nat), []) → dBin pIx (dVar 0) e (N x2) ([] : Sto) = some (.int (ns.getD j 0), []) := fun {j x2 e} hj he => by
    refine bin_of (x := Sc) rfl he (ix_seq (atD_nat ?_))
    rw [List.getElem?_map, List.getD_eq_getElem?_getD, List.getElem?_eq_getElem hj]; rfl
  have c1 : dBin pLt (dVar 1) (dPrim pLen (aCons (dVar 0) aNil)) (N none) ([] : Sto) = some (.bl (decide ((i : Int) < ns.length)), []) := bin_of (x := .int (i : Nat)) rfl ln Dn.v_lt
  by_cases q : (i : Int) < ns.length
  · rw [decide_eq_true q] at c1
    exact ⟨_, pureOf_of (S' := []) (run_rt rfl (seq_rt ((ifS_t c1).trans (ret_of (at_ (j := i) (by omega) rfl))))) rfl⟩
  · rw [decide_eq_false q] at c1
    have s1 : dIfS (dBin pLt (dVar 1) (dPrim pLen (aCons (dVar 0) aNil))) (dRet (dBin pIx (dVar 0) (dVar 1))) dNext (N none) ([] : Sto) = some (.nx (N none) []) := (ifS_f c1).trans rfl
    have s2 : dSet 2 (dC (.int 7)) (N none) ([] : Sto) = some (.nx (N (some (.int 7))) []) := rfl
    have s3 : ∃ z : Int, -1000000 < z ∧ z < 1000000 ∧ dIfS (dBin pGt (dPrim pLen (aCons (dVar 0) aNil)) (dC (.int 0))) (dSet 2 (dBin pMod (dBin pIx (dVar 0) (dBin pMod (dVar 1) (dPrim pLen (aCons (dVar 0) aNil)))) (dC (.int 999983)))) dNext (N (some (.int 7))) ([] : Sto) = some (.nx (N (some (.int z))) []) := by
      have c2 : dBin pGt (dPrim pLen (aCons (dVar 0) aNil)) (dC (.int 0)) (N (some (.int 7))) ([] : Sto) = some (.bl (decide ((0 : Int) < ns.length)), []) := bin_of ln (y := .int 0) rfl Dn.v_gt
      by_cases p : (0 : Int) < ns.length
      · rw [decide_eq_true p] at c2
        have m1 : dBin pMod (dVar 1) (dPrim pLen (aCons (dVar 0) aNil)) (N (some (.int 7))) ([] : Sto) = some (.int ((i % ns.length : Nat) : Int), []) := by
          rw [show ((i % ns.length : Nat) : Int) = (i : Int) % (ns.length : Int) from Int.natCast_emod i ns.length]
          exact modI_of (a := (i : Nat)) rfl ln p
        refine ⟨ns.getD (i % ns.length) 0 % 999983, by have := Int.emod_nonneg (ns.getD (i % ns.length) 0) (show (999983 : Int) ≠ 0 by decide); omega, by have := Int.emod_lt_of_pos (ns.getD (i % ns.length) 0) (show (0 : Int) < 999983 by decide); omega, (ifS_t c2).trans (set_of (modI_of (at_ (Nat.mod_lt _ (by omega)) m1) (b := 999983) rfl (by decide)))⟩
      · rw [decide_eq_false p] at c2
        exact ⟨7, by decide, by decide, (ifS_f c2).trans rfl⟩
    obtain ⟨z, z0, z1, s3⟩ := s3
    let ρ := N (some (.int z))
    have t1 : dBin pAdd (dBin pAdd (dVar 2) (dBin pMul (dC (.int 613)) (dVar 1))) (dC (.int 29)) ρ ([] : Sto) = some (.int (z + 613 * (i : Int) + 29), []) := addI_of (addI_of (a := z) rfl (bin_of (x := .int 613) (y := .int (i : Nat)) rfl rfl (v_mulIl (by decide)))) (b := 29) rfl
    have t2 : dBin pAdd (dBin pAdd (dVar 2) (dBin pMul (dC (.int 71)) (dVar 1))) (dC (.int 5)) ρ ([] : Sto) = some (.int (z + 71 * (i : Int) + 5), []) := addI_of (addI_of (a := z) rfl (bin_of (x := .int 71) (y := .int (i : Nat)) rfl rfl (v_mulIl (by decide)))) (b := 5) rfl
    exact ⟨_, pureOf_of (S' := []) (run_rt rfl ((seq_nx s1).trans ((seq_nx s2).trans ((seq_nx s3).trans (ret_of (modI_of (bin_of t1 t2 (v_mulI (by omega))) (b := 1000003) rfl (by decide))))))) rfl⟩
theorem w_join_loc {f : DE} {ρ : Ev} {S S1 : Sto} {n : Nat} {cs : List Nat} (h : f ρ S = some (.loc n, S1)) (hn : S1[n]? = some (.lst (cs.map fun c => .str (one1 c)))) (hl : cs.length ≤ 1000000) : dM1 pJoin (dC (.str "")) f ρ S = some (.str (txt cs), S1) := by
  unfold dM1
  simp only [v_c, h]
  unfold pJoin itemsD
  simp only [asL_loc hn, strsD_map]
  have e := ones_sum cs
  rw [if_pos, Dn.join_ones]
  rw [e]
  show cs.length + (cs.map one1).length * 0 ≤ _
  omega
def goalR : PRow → Nat
  | .ifr _ n => n
  | .go n => n
  | _ => 0
def leadsIn (n : Nat) (r : PRow) : Prop := match r with
  | .ifr _ k => k < n
  | .go k => k < n
  | _ => True
theorem leadsIn_goal {n : Nat} {r : PRow} (h : leadsIn n r) (h0 : 0 < n) : goalR r < n := by
  cases r <;> first | exact h0 | exact h
end Lk12

namespace Lk12
open PySem PySem.Spec PyProof.Rows L2 Dn
/-! ### names -/
def n_lk (b : Int) : Bool := decide (w_pt b 5 4 = 1)
def n_ws : List Str := ["at", "cell", "twin", "shelf", "twins", "load", "store", "take", "lay", "hear", "say", "end", "if", "go"]
def n_sz (b : Int) : Int := 1 + w_pt b 7 (6 - (if n_lk b then 1 else 0))
def n_nl (b : Int) : List Nat := (List.range (n_sz b).toNat).map fun j => 97 + (w_pt b j 26).toNat
def n_cs (b : Int) (k : Nat) : List Nat := (n_nl b).set (w_pt b 3 (n_sz b)).toNat (97 + ((w_pt b 4 26 + (k : Int)) % 26).toNat)
def n_q (b : Int) : List Nat := if n_lk b then [113] else []
def n_nm (b : Int) (k : Nat) : Str := if n_lk b = true ∧ k < 12 then n_ws.getD (((k : Int) + w_pt b 6 14) % 14).toNat "" else txt (n_cs b k ++ n_q b)
theorem n_sz_in (b : Int) : 1 ≤ n_sz b ∧ n_sz b ≤ 6 ∧ (n_lk b = true → n_sz b ≤ 5) := by
  unfold n_sz
  cases h : n_lk b with
  | true =>
    have := w_pt_in (c := b) (j := 7) (m := 5) (by decide)
    refine ⟨by simp; omega, by simp; omega, fun _ => by simp; omega⟩
  | false =>
    have := w_pt_in (c := b) (j := 7) (m := 6) (by decide)
    refine ⟨by simp; omega, by simp; omega, fun z => by cases z⟩
theorem n_txt_app (a b : List Nat) : (txt a ++ txt b : Str) = txt (a ++ b) := by
  apply TL.ext_tl
  rw [TL.tl_append]
  rfl
theorem n_name (b : Int) (k : Nat) : pureOf F_law_name [.int b, .int (k : Nat)] = some (.str (n_nm b k)) := by
  let N (x2 x3 x4 x5 x6 x7 : Option DV) : List (Option DV) := [some (.int b), some (.int (k : Nat)), x2, x3, x4, x5, x6, x7]
  let o : Option DV := none
  let j2 : Option DV := some (.str "abcdefghijklmnopqrstuvwxyz")
  let WL : DV := .lst .own (n_ws.map .str)
  let j3 : Option DV := some WL
  let j4 : Option DV := some (.bl (n_lk b))
  have s2 : dSet 2 (dC (.str "abcdefghijklmnopqrstuvwxyz")) (N o o o o o o) ([] : Sto) = some (.nx (N j2 o o o o o) []) := rfl
  have s3 : dSet 3 (dPrim pLst (aCons (dC (.str "at")) (aCons (dC (.str "cell")) (aCons (dC (.str "twin")) (aCons (dC (.str "shelf")) (aCons (dC (.str "twins")) (aCons (dC (.str "load")) (aCons (dC (.str "store")) (aCons (dC (.str "take")) (aCons (dC (.str "lay")) (aCons (dC (.str "hear")) (aCons (dC (.str "say")) (aCons (dC (.str "end")) (aCons (dC (.str "if")) (aCons (dC (.str "go")) aNil))))))))))))))) (N j2 o o o o o) ([] : Sto) = some (.nx (N j2 j3 o o o o) []) := rfl
  have s4 : dSet 4 (dBin (pEq false) (dPrim (cP (pureOf F_law_part) []) (aCons (dVar 0) (aCons (dC (.int 5)) (aCons (dC (.int 4)) aNil)))) (dC (.int 1))) (N j2 j3 o o o o) ([] : Sto) = some (.nx (N j2 j3 j4 o o o) []) :=
    set_of (bin_of (w_part_of (c := b) (j := 5) (m := 4) rfl rfl rfl (by decide)) (y := .int 1) rfl v_eqI)
  have c5 : dAnd (dVar 4) (dBin pLt (dVar 1) (dC (.int 12))) (N j2 j3 j4 o o o) ([] : Sto) = some (.bl (decide (n_lk b = true ∧ k < 12)), []) := by
    refine and_p (bl_p rfl) fun _ => bin_of (x := .int (k : Nat)) (y := .int 12) rfl rfl ?_
    rw [Dn.v_lt]
    congr 3
    exact decide_eq_decide.mpr (by omega)
  by_cases q : n_lk b = true ∧ k < 12
  · rw [decide_eq_true q] at c5
    have m0 := Int.emod_nonneg ((k : Int) + w_pt b 6 14) (show (14 : Int) ≠ 0 by decide)
    have m1 := Int.emod_lt_of_pos ((k : Int) + w_pt b 6 14) (show (0 : Int) < 14 by decide)
    have e : dBin pIx (dVar 3) (dBin pMod (dBin pAdd (dVar 1) (dPrim (cP (pureOf F_law_part) []) (aCons (dVar 0) (aCons (dC (.int 6)) (aCons (dC (.int 14)) aNil))))) (dC (.int 14))) (N j2 j3 j4 o o o) ([] : Sto) = some (.str (n_nm b k), []) := by
      refine bin_of (x := WL) rfl (modI_of (addI_of (a := (k : Nat)) rfl (w_part_of (c := b) (j := 6) (m := 14) rfl rfl rfl (by decide))) (b := 14) rfl (by decide)) (ix_seq ?_)
      rw [← Int.toNat_of_nonneg m0]
      refine atD_nat ?_
      have hl : (((k : Int) + w_pt b 6 14) % 14).toNat < n_ws.length := by show _ < 14; omega
      unfold n_nm
      rw [if_pos q, List.getElem?_map, List.getD_eq_getElem?_getD, List.getElem?_eq_getElem hl]
      rfl
    exact pureOf_of (S' := []) (run_rt rfl ((seq_nx s2).trans ((seq_nx s3).trans ((seq_nx s4).trans (seq_rt ((ifS_t c5).trans (ret_of e))))))) rfl
  · rw [decide_eq_false q] at c5
    obtain ⟨z1, z6, _⟩ := n_sz_in b
    obtain ⟨n, hn⟩ : ∃ n : Nat, n_sz b = (n : Nat) := ⟨(n_sz b).toNat, by omega⟩
    have nn : (n_sz b).toNat = n := by omega
    let j5 : Option DV := some (.int (n : Nat))
    have ps := w_pt_in (c := b) (j := 3) (m := (n : Int)) (by omega)
    let A : List Nat := (List.range n).map fun j => 97 + (w_pt b j 26).toNat
    have A0 : n_nl b = A := by unfold n_nl; rw [nn]
    have Al : A.length = n := by show ((List.range n).map _).length = n; rw [List.length_map, List.length_range]
    have b4 : ∀ {x5 x6 x7 : Option DV} {S : Sto}, dPrim pInt (aCons (dVar 4) aNil) (N j2 j3 j4 x5 x6 x7) S = some (.int (if n_lk b then 1 else 0), S) := fun {x5 x6 x7 S} => prim_of (args1 (x := .bl (n_lk b)) rfl) v_intB
    have s5 : dSet 5 (dBin pAdd (dC (.int 1)) (dPrim (cP (pureOf F_law_part) []) (aCons (dVar 0) (aCons (dC (.int 7)) (aCons (dBin pSub (dC (.int 6)) (dPrim pInt (aCons (dVar 4) aNil))) aNil))))) (N j2 j3 j4 o o o) ([] : Sto) = some (.nx (N j2 j3 j4 j5 o o) []) := by
      have : dBin pAdd (dC (.int 1)) (dPrim (cP (pureOf F_law_part) []) (aCons (dVar 0) (aCons (dC (.int 7)) (aCons (dBin pSub (dC (.int 6)) (dPrim pInt (aCons (dVar 4) aNil))) aNil)))) (N j2 j3 j4 o o o) ([] : Sto) = some (.int (n : Nat), []) := by
        rw [← hn]
        exact addI_of (a := 1) rfl (w_part_of (c := b) (j := 7) (m := 6 - (if n_lk b then 1 else 0)) rfl rfl (subI_of (a := 6) rfl b4) (by split <;> decide))
      exact set_of this
    have s6 : dSet 6 (dLcM (iRange1 (aCons (dVar 5) aNil)) (gSet 7) (dC (.bl true)) (dBin pIx (dVar 2) (dPrim (cP (pureOf F_law_part) []) (aCons (dVar 0) (aCons (dVar 7) (aCons (dC (.int 26)) aNil))))) [7]) (N j2 j3 j4 j5 o o) ([] : Sto) = some (.nx (N j2 j3 j4 j5 (some (.loc 0)) o) [.lst (A.map fun c => .str (one1 c))]) := by
      refine set_of ((dLcM_of (S1 := []) (S2 := []) (rgN_of (n := n) rfl (by omega)) (lc_all (D := fun (i : Nat) => DV.int i) (E := fun j => DV.str (one1 (97 + (w_pt b j 26).toNat))) (K := List.range n) fun j _ => ?_) (size_ok (by rw [List.length_map, List.length_range]; omega))).trans ?_)
      · have pj := w_pt_in (c := b) (j := j) (m := 26) (by decide)
        refine ⟨N j2 j3 j4 j5 o (some (.int (j : Nat))), rfl, rfl, bin_of (x := .str "abcdefghijklmnopqrstuvwxyz") rfl (w_part_of (c := b) (j := j) (m := 26) rfl rfl rfl (by decide)) (abc_ix pj.1 pj.2)⟩
      · simp only [A, List.map_map]; rfl
    let c : Nat := 97 + ((w_pt b 4 26 + (k : Int)) % 26).toNat
    let p : Nat := (w_pt b 3 (n : Int)).toNat
    have pl : p < n := by show (w_pt b 3 (n : Int)).toNat < n; omega
    have m0 := Int.emod_nonneg (w_pt b 4 26 + (k : Int)) (show (26 : Int) ≠ 0 by decide)
    have m1 := Int.emod_lt_of_pos (w_pt b 4 26 + (k : Int)) (show (0 : Int) < 26 by decide)
    have s7 : dSub (dBin pIx (dVar 2) (dBin pMod (dBin pAdd (dPrim (cP (pureOf F_law_part) []) (aCons (dVar 0) (aCons (dC (.int 4)) (aCons (dC (.int 26)) aNil)))) (dVar 1)) (dC (.int 26)))) (dVar 6) (dPrim (cP (pureOf F_law_part) []) (aCons (dVar 0) (aCons (dC (.int 3)) (aCons (dVar 5) aNil)))) (N j2 j3 j4 j5 (some (.loc 0)) o) [.lst (A.map fun c => .str (one1 c))] = some (.nx (N j2 j3 j4 j5 (some (.loc 0)) o) [.lst ((A.set p c).map fun c => .str (one1 c))]) := by
      refine (sub_of (y := .str (one1 c)) (x := .loc 0) (k := .int (w_pt b 3 (n : Int))) (S1 := [.lst (A.map fun c => .str (one1 c))]) (bin_of (x := .str "abcdefghijklmnopqrstuvwxyz") rfl (modI_of (addI_of (w_part_of (c := b) (j := 4) (m := 26) rfl rfl rfl (by decide)) (b := (k : Nat)) rfl) (b := 26) rfl (by decide)) (abc_ix m0 m1)) rfl (w_part_of (c := b) (j := 3) (m := (n : Nat)) rfl rfl rfl (by omega)) (setI_lst (j := p) rfl ?_)).trans ?_
      · rw [List.length_map, Al]
        unfold ixN
        rw [if_pos (by omega)]
        first
          | rfl
          | (rw [if_pos (by omega)])
          | simp [p]
      · rw [List.map_set]; rfl
    have fin : n_nm b k = txt (A.set p c ++ n_q b) := by
      unfold n_nm n_cs
      rw [if_neg q, A0, hn]
    have qe : ∀ {S : Sto}, dBin pMulS (dC (.str "q")) (dPrim pInt (aCons (dVar 4) aNil)) (N j2 j3 j4 j5 (some (.loc 0)) o) S = some (.str (txt (n_q b)), S) := fun {S} => by
      refine bin_of (x := .str "q") rfl b4 ?_
      unfold n_q
      cases n_lk b with
      | true =>
        show (if (0 : Int) ≤ 1 ∧ (1 : Int) ≤ 1000 ∧ ("q" : Str).length ≤ 1000 then some (DV.str (Txt.mul "q" 1), S) else none) = _
        rw [if_pos (by decide +kernel), show Txt.mul "q" 1 = txt [113] by decide +kernel]
        rfl
      | false =>
        show (if (0 : Int) ≤ 0 ∧ (0 : Int) ≤ 1000 ∧ ("q" : Str).length ≤ 1000 then some (DV.str (Txt.mul "q" 0), S) else none) = _
        rw [if_pos (by decide +kernel), show Txt.mul "q" 0 = txt [] by decide +kernel]
        rfl
    have le : ∀ l : List Nat, (txt l).length = l.length := fun l => by
      rw [TL.len_tl]
      show (TL.tl ⟨l.toArray⟩).length = _
      rw [TL.tl_mk]
    have ad : dBin pAdd (dM1 pJoin (dC (.str "")) (dVar 6)) (dBin pMulS (dC (.str "q")) (dPrim pInt (aCons (dVar 4) aNil))) (N j2 j3 j4 j5 (some (.loc 0)) o) [.lst ((A.set p c).map fun c => .str (one1 c))] = some (.str (n_nm b k), [.lst ((A.set p c).map fun c => .str (one1 c))]) := by
      refine bin_of (w_join_loc (n := 0) (cs := A.set p c) rfl rfl (by rw [List.length_set, Al]; omega)) qe ?_
      rw [fin, v_addS, n_txt_app, if_pos]
      rw [le, le, List.length_set, Al]
      refine size_ok ?_
      unfold n_q
      split <;> simp <;> omega
    exact pureOf_of (S' := [.lst ((A.set p c).map fun c => .str (one1 c))]) (run_rt rfl ((seq_nx s2).trans ((seq_nx s3).trans ((seq_nx s4).trans ((seq_nx ((ifS_f c5).trans rfl)).trans ((seq_nx s5).trans ((seq_nx s6).trans ((seq_nx s7).trans (ret_of ad))))))))) rfl
theorem n_q_len (b : Int) : (n_q b).length = if n_lk b then 1 else 0 := by unfold n_q; split <;> rfl
theorem n_tl (l : List Nat) : TL.tl (txt l) = l := TL.tl_mk l
theorem n_nm_ok (b : Int) (k : Nat) : nameB (n_nm b k) = true := by
  unfold n_nm
  by_cases q : n_lk b = true ∧ k < 12
  · rw [if_pos q]
    have m0 := Int.emod_nonneg ((k : Int) + w_pt b 6 14) (show (14 : Int) ≠ 0 by decide)
    have m1 := Int.emod_lt_of_pos ((k : Int) + w_pt b 6 14) (show (0 : Int) < 14 by decide)
    have h : ∀ i, i < 14 → nameB (n_ws.getD i "") = true := by decide +kernel
    exact h _ (by omega)
  · rw [if_neg q]
    obtain ⟨z1, z6, z5⟩ := n_sz_in b
    have ll : (n_cs b k).length = (n_sz b).toNat := by unfold n_cs n_nl; rw [List.length_set, List.length_map, List.length_range]
    refine nameB_iff.mpr ⟨?_, ?_, fun c hc => ?_⟩
    · rw [TL.len_tl, n_tl, List.length_append, ll]; omega
    · rw [TL.len_tl, n_tl, List.length_append, ll, n_q_len]
      split
      · rename_i h; have := z5 h; omega
      · omega
    · rw [n_tl] at hc
      rcases List.mem_append.mp hc with h | h
      · rcases List.mem_or_eq_of_mem_set h with h | h
        · obtain ⟨j, _, rfl⟩ := List.mem_map.mp h
          have := w_pt_in (c := b) (j := j) (m := 26) (by decide)
          omega
        · have m1 := Int.emod_lt_of_pos (w_pt b 4 26 + (k : Int)) (show (0 : Int) < 26 by decide)
          have m0 := Int.emod_nonneg (w_pt b 4 26 + (k : Int)) (show (26 : Int) ≠ 0 by decide)
          omega
      · unfold n_q at h
        split at h
        · rw [List.mem_singleton.mp h]; omega
        · cases h
theorem n_nm_inj {b : Int} {i j : Nat} (hi : 10 ≤ i ∧ i < 22) (hj : 10 ≤ j ∧ j < 22) (h : n_nm b i = n_nm b j) : i = j := by
  obtain ⟨z1, z6, z5⟩ := n_sz_in b
  have ps := w_pt_in (c := b) (j := 3) (m := n_sz b) (by omega)
  have mi0 := Int.emod_nonneg ((i : Int) + w_pt b 6 14) (show (14 : Int) ≠ 0 by decide)
  have mi1 := Int.emod_lt_of_pos ((i : Int) + w_pt b 6 14) (show (0 : Int) < 14 by decide)
  have mj0 := Int.emod_nonneg ((j : Int) + w_pt b 6 14) (show (14 : Int) ≠ 0 by decide)
  have mj1 := Int.emod_lt_of_pos ((j : Int) + w_pt b 6 14) (show (0 : Int) < 14 by decide)
  have nq : ∀ i, i < 14 → ∀ l : List Nat, n_ws.getD i "" ≠ txt (l ++ [113]) := fun i hi l e => by
    have h1 : ∀ i, i < 14 → (TL.tl (n_ws.getD i "")).getLast? ≠ some 113 := by decide +kernel
    have := h1 i hi
    rw [e, n_tl] at this
    exact this (by simp)
  have wi : ∀ i, i < 14 → ∀ j, j < 14 → n_ws.getD i "" = n_ws.getD j "" → i = j := by decide +kernel
  by_cases qi : n_lk b = true ∧ i < 12
  · by_cases qj : n_lk b = true ∧ j < 12
    · unfold n_nm at h
      rw [if_pos qi, if_pos qj] at h
      have := wi _ (by omega) _ (by omega) h
      omega
    · unfold n_nm at h
      rw [if_pos qi, if_neg qj, show n_q b = [113] by unfold n_q; rw [if_pos qi.1]] at h
      exact absurd h (nq _ (by omega) _)
  · by_cases qj : n_lk b = true ∧ j < 12
    · unfold n_nm at h
      rw [if_neg qi, if_pos qj, show n_q b = [113] by unfold n_q; rw [if_pos qj.1]] at h
      exact absurd h.symm (nq _ (by omega) _)
    · unfold n_nm at h
      rw [if_neg qi, if_neg qj] at h
      have h := congrArg TL.tl h
      rw [n_tl, n_tl] at h
      have ll : ∀ k, (n_cs b k).length = (n_sz b).toNat := fun k => by unfold n_cs n_nl; rw [List.length_set, List.length_map, List.length_range]
      have h1 := (List.append_inj h (by rw [ll, ll])).1
      unfold n_cs at h1
      have lt : (w_pt b 3 (n_sz b)).toNat < (n_nl b).length := by unfold n_nl; rw [List.length_map, List.length_range]; omega
      have h2 := congrArg (fun l : List Nat => l[(w_pt b 3 (n_sz b)).toNat]?) h1
      simp only [List.getElem?_set_self lt] at h2
      have := Option.some.inj h2
      omega
end Lk12

namespace Lk12
open PySem PySem.Spec PyProof.Rows L2 Dn
/-! ### atoms and rows -/
theorem n_name_of {f g : DE} {ρ : List (Option DV)} {S S1 S2 : Sto} {b z : Int} (h1 : f ρ S = some (.int b, S1)) (h2 : g ρ S1 = some (.int z, S2)) (hz : 0 ≤ z) : dPrim (cP (pureOf F_law_name) []) (aCons f (aCons g aNil)) ρ S = some (.str (n_nm b z.toNat), S2) := by
  refine callPP (args2 h1 h2) rfl ?_
  have := n_name b z.toNat
  rw [Int.toNat_of_nonneg hz] at this
  exact this
theorem n_p40 {S : Sto} : pPow (.int 2) (.int 40) S = some (.int 1099511627776, S) := by rfl
theorem n_p39 {S : Sto} : pPow (.int 2) (.int 39) S = some (.int 549755813888, S) := by rfl
theorem n_atom (c : Int) (j : Nat) (b : Int) : ∃ a : Atm, AtT a ∧ pureOf F_law_atom [.int c, .int (j : Nat), .int b] = some a.d := by
  let N (x3 : Option DV) : List (Option DV) := [some (.int c), some (.int (j : Nat)), some (.int b), x3]
  let w := w_pt c j 5
  have s3 : dSet 3 (dPrim (cP (pureOf F_law_part) []) (aCons (dVar 0) (aCons (dVar 1) (aCons (dC (.int 5)) aNil)))) (N none) ([] : Sto) = some (.nx (N (some (.int w))) []) := set_of (w_part_of (c := c) (j := j) (m := 5) rfl rfl rfl (by decide))
  let ρ := N (some (.int w))
  have j1 : dBin pAdd (dVar 1) (dC (.int 1)) ρ ([] : Sto) = some (.int ((j + 1 : Nat) : Int), []) := addI_of (a := (j : Nat)) (b := 1) rfl rfl
  have c0 : ∀ k : Int, dBin (pEq false) (dVar 3) (dC (.int k)) ρ ([] : Sto) = some (.bl (decide (w = k)), []) := fun k => bin_of (x := .int w) (y := .int k) rfl rfl v_eqI
  by_cases q0 : w = 0
  · have p6 := w_pt_in (c := c) (j := j + 1) (m := 6) (by decide)
    let vs : List Int := [0, 1, 9, 10, 1099511627775, 549755813888]
    have el : dPrim pLst (aCons (dC (.int 0)) (aCons (dC (.int 1)) (aCons (dC (.int 9)) (aCons (dC (.int 10)) (aCons (dBin pSub (dBin pPow (dC (.int 2)) (dC (.int 40))) (dC (.int 1))) (aCons (dBin pPow (dC (.int 2)) (dC (.int 39))) aNil)))))) ρ ([] : Sto) = some (.lst .own (vs.map .int), []) :=
      prim_of (argsC rfl (argsC rfl (argsC rfl (argsC rfl (args2 (subI_of (a := 1099511627776) (b := 1) (bin_of (x := .int 2) (y := .int 40) rfl rfl n_p40) rfl) (bin_of (x := .int 2) (y := .int 39) rfl rfl n_p39)))))) rfl
    have hv : ∀ i, i < 6 → In40 (vs.getD i 0) := by
      have : ∀ i, i < 6 → 0 ≤ vs.getD i 0 ∧ vs.getD i 0 < 1099511627776 := by decide
      exact this
    have e : dBin pIx (dPrim pLst (aCons (dC (.int 0)) (aCons (dC (.int 1)) (aCons (dC (.int 9)) (aCons (dC (.int 10)) (aCons (dBin pSub (dBin pPow (dC (.int 2)) (dC (.int 40))) (dC (.int 1))) (aCons (dBin pPow (dC (.int 2)) (dC (.int 39))) aNil))))))) (dPrim (cP (pureOf F_law_part) []) (aCons (dVar 0) (aCons (dBin pAdd (dVar 1) (dC (.int 1))) (aCons (dC (.int 6)) aNil)))) ρ ([] : Sto) = some (.int (vs.getD (w_pt c (j + 1) 6).toNat 0), []) := by
      refine bin_of el (w_part_of (c := c) (j := j + 1) (m := 6) rfl j1 rfl (by decide)) (ix_seq ?_)
      rw [← Int.toNat_of_nonneg p6.1]
      refine atD_nat ?_
      have hl : (w_pt c (j + 1) 6).toNat < vs.length := by show _ < 6; omega
      rw [List.getElem?_map, Int.toNat_natCast, List.getD_eq_getElem?_getD, List.getElem?_eq_getElem hl]
      rfl
    exact ⟨.n (vs.getD (w_pt c (j + 1) 6).toNat 0), hv _ (by omega), pureOf_of (S' := []) (run_rt rfl ((seq_nx s3).trans (seq_rt ((ifS_t ((c0 0).trans (by rw [decide_eq_true q0]))).trans (ret_of e))))) rfl⟩
  · have f0 := (ifS_f (s := dRet (dBin pIx (dPrim pLst (aCons (dC (.int 0)) (aCons (dC (.int 1)) (aCons (dC (.int 9)) (aCons (dC (.int 10)) (aCons (dBin pSub (dBin pPow (dC (.int 2)) (dC (.int 40))) (dC (.int 1))) (aCons (dBin pPow (dC (.int 2)) (dC (.int 39))) aNil))))))) (dPrim (cP (pureOf F_law_part) []) (aCons (dVar 0) (aCons (dBin pAdd (dVar 1) (dC (.int 1))) (aCons (dC (.int 6)) aNil)))))) (t := dNext) ((c0 0).trans (by rw [decide_eq_false q0]))).trans (rfl : dNext ρ ([] : Sto) = some (.nx ρ []))
    by_cases q1 : w = 1
    · have v40 : In40 (c * 94906267 % 1099511627776) := ⟨Int.emod_nonneg _ (by decide), Int.emod_lt_of_pos _ (by decide)⟩
      have e : dBin pMod (dBin pMul (dVar 0) (dC (.int 94906267))) (dBin pPow (dC (.int 2)) (dC (.int 40))) ρ ([] : Sto) = some (.int (c * 94906267 % 1099511627776), []) := modI_of (bin_of (x := .int c) (y := .int 94906267) rfl rfl (v_mulI (by decide))) (b := 1099511627776) (bin_of (x := .int 2) (y := .int 40) rfl rfl n_p40) (by decide)
      exact ⟨.n (c * 94906267 % 1099511627776), v40, pureOf_of (S' := []) (run_rt rfl ((seq_nx s3).trans ((seq_nx f0).trans (seq_rt ((ifS_t ((c0 1).trans (by rw [decide_eq_true q1]))).trans (ret_of e)))))) rfl⟩
    · have p12 := w_pt_in (c := c) (j := j + 1) (m := 12) (by decide)
      have e : dPrim (cP (pureOf F_law_name) []) (aCons (dVar 2) (aCons (dPrim (cP (pureOf F_law_part) []) (aCons (dVar 0) (aCons (dBin pAdd (dVar 1) (dC (.int 1))) (aCons (dC (.int 12)) aNil)))) aNil)) ρ ([] : Sto) = some (.str (n_nm b (w_pt c (j + 1) 12).toNat), []) :=
        n_name_of (b := b) rfl (w_part_of (c := c) (j := j + 1) (m := 12) rfl j1 rfl (by decide)) p12.1
      exact ⟨.x (n_nm b (w_pt c (j + 1) 12).toNat), n_nm_ok _ _, pureOf_of (S' := []) (run_rt rfl ((seq_nx s3).trans ((seq_nx f0).trans ((seq_nx ((ifS_f ((c0 1).trans (by rw [decide_eq_false q1]))).trans rfl)).trans (ret_of e))))) rfl⟩
theorem n_row (c b : Int) (many : Nat) : ∃ r : PRow, RowT r ∧ leadsIn (many + 1) r ∧ pureOf F_law_row [.int c, .int b, .int (many : Nat)] = some r.d := by
  let N (x3 x4 x5 x6 x7 x8 : Option DV) : List (Option DV) := [some (.int c), some (.int b), some (.int (many : Nat)), x3, x4, x5, x6, x7, x8]
  let o : Option DV := none
  have p2 := w_pt_in (c := c) (j := 2) (m := 12) (by decide)
  have p7 := w_pt_in (c := c) (j := 7) (m := 20) (by decide)
  have p0 := w_pt_in (c := c) (j := 0) (m := 12) (by decide)
  have p1 := w_pt_in (c := c) (j := 1) (m := 8) (by decide)
  have pg := w_pt_in (c := c) (j := 1) (m := (many : Int) + 1) (by omega)
  let x : Str := n_nm b (w_pt c 2 12).toNat
  let y : Str := n_nm b (4 + w_pt c 7 20).toNat
  have hx : nameB x = true := n_nm_ok _ _
  have hy : nameB y = true := n_nm_ok _ _
  obtain ⟨a1, ha1, ea1⟩ := n_atom c 3 b
  obtain ⟨a2, ha2, ea2⟩ := n_atom c 5 b
  let kd := w_pt c 0 12
  let j3 : Option DV := some (.str x)
  let j4 : Option DV := some a1.d
  let j5 : Option DV := some a2.d
  let j6 : Option DV := some (.str y)
  let j7 : Option DV := some (.int kd)
  have s3 : dSet 3 (dPrim (cP (pureOf F_law_name) []) (aCons (dVar 1) (aCons (dPrim (cP (pureOf F_law_part) []) (aCons (dVar 0) (aCons (dC (.int 2)) (aCons (dC (.int 12)) aNil)))) aNil))) (N o o o o o o) ([] : Sto) = some (.nx (N j3 o o o o o) []) := set_of (n_name_of (b := b) rfl (w_part_of (c := c) (j := 2) (m := 12) rfl rfl rfl (by decide)) p2.1)
  have s4 : dSet 4 (dPrim (cP (pureOf F_law_atom) []) (aCons (dVar 0) (aCons (dC (.int 3)) (aCons (dVar 1) aNil)))) (N j3 o o o o o) ([] : Sto) = some (.nx (N j3 j4 o o o o) []) := set_of (callPP (args3 rfl rfl rfl) rfl ea1)
  have s5 : dSet 5 (dPrim (cP (pureOf F_law_atom) []) (aCons (dVar 0) (aCons (dC (.int 5)) (aCons (dVar 1) aNil)))) (N j3 j4 o o o o) ([] : Sto) = some (.nx (N j3 j4 j5 o o o) []) := set_of (callPP (args3 rfl rfl rfl) rfl ea2)
  have s6 : dSet 6 (dPrim (cP (pureOf F_law_name) []) (aCons (dVar 1) (aCons (dBin pAdd (dC (.int 4)) (dPrim (cP (pureOf F_law_part) []) (aCons (dVar 0) (aCons (dC (.int 7)) (aCons (dC (.int 20)) aNil))))) aNil))) (N j3 j4 j5 o o o) ([] : Sto) = some (.nx (N j3 j4 j5 j6 o o) []) := set_of (n_name_of (b := b) rfl (addI_of (a := 4) rfl (w_part_of (c := c) (j := 7) (m := 20) rfl rfl rfl (by decide))) (by omega))
  have s7 : dSet 7 (dPrim (cP (pureOf F_law_part) []) (aCons (dVar 0) (aCons (dC (.int 0)) (aCons (dC (.int 12)) aNil)))) (N j3 j4 j5 j6 o o) ([] : Sto) = some (.nx (N j3 j4 j5 j6 j7 o) []) := set_of (w_part_of (c := c) (j := 0) (m := 12) rfl rfl rfl (by decide))
  let ρ := N j3 j4 j5 j6 j7 o
  have cl : ∀ k : Int, dBin pLt (dVar 7) (dC (.int k)) ρ ([] : Sto) = some (.bl (decide (kd < k)), []) := fun k => bin_of (x := .int kd) (y := .int k) rfl rfl Dn.v_lt
  have ce : ∀ k : Int, dBin (pEq false) (dVar 7) (dC (.int k)) ρ ([] : Sto) = some (.bl (decide (kd = k)), []) := fun k => bin_of (x := .int kd) (y := .int k) rfl rfl v_eqI
  have yes : ∀ {cnd f : DE} {t : DS} {d : DV} {p : Prop} [Decidable p], cnd ρ ([] : Sto) = some (.bl (decide p), []) → p → f ρ ([] : Sto) = some (d, []) → dSeq (dIfS cnd (dRet f) dNext) t ρ ([] : Sto) = some (.rt d []) := fun {cnd f t d p _} h hp hf => seq_rt ((ifS_t (h.trans (by rw [decide_eq_true hp]))).trans (ret_of hf))
  have no : ∀ {cnd f : DE} {t : DS} {r : Option Out} {p : Prop} [Decidable p], cnd ρ ([] : Sto) = some (.bl (decide p), []) → ¬ p → t ρ ([] : Sto) = r → dSeq (dIfS cnd (dRet f) dNext) t ρ ([] : Sto) = r := fun {cnd f t r p _} h hp ht => (seq_nx ((ifS_f (h.trans (by rw [decide_eq_false hp]))).trans rfl)).trans ht
  have front : ∀ {r : PRow} {t : DS}, b_law_row = (dSeq (dSet 3 (dPrim (cP (pureOf F_law_name) []) (aCons (dVar 1) (aCons (dPrim (cP (pureOf F_law_part) []) (aCons (dVar 0) (aCons (dC (.int 2)) (aCons (dC (.int 12)) aNil)))) aNil))))
      (dSeq (dSet 4 (dPrim (cP (pureOf F_law_atom) []) (aCons (dVar 0) (aCons (dC (.int 3)) (aCons (dVar 1) aNil)))))
      (dSeq (dSet 5 (dPrim (cP (pureOf F_law_atom) []) (aCons (dVar 0) (aCons (dC (.int 5)) (aCons (dVar 1) aNil)))))
      (dSeq (dSet 6 (dPrim (cP (pureOf F_law_name) []) (aCons (dVar 1) (aCons (dBin pAdd (dC (.int 4)) (dPrim (cP (pureOf F_law_part) []) (aCons (dVar 0) (aCons (dC (.int 7)) (aCons (dC (.int 20)) aNil))))) aNil))))
      (dSeq (dSet 7 (dPrim (cP (pureOf F_law_part) []) (aCons (dVar 0) (aCons (dC (.int 0)) (aCons (dC (.int 12)) aNil))))) t))))) → t ρ [] = some (.rt r.d []) → pureOf F_law_row [.int c, .int b, .int (many : Nat)] = some r.d := fun {r t} hb ht => by
    refine pureOf_of (S' := []) (run_rt rfl ?_) PRow.plain_d
    show b_law_row (N o o o o o o) [] = _
    rw [hb]
    exact (seq_nx s3).trans ((seq_nx s4).trans ((seq_nx s5).trans ((seq_nx s6).trans ((seq_nx s7).trans ht))))
  have it : ∀ {k : Str} {ds : List DV} {fa : DA}, fa ρ ([] : Sto) = some (ds, []) → (hz : ds.length ≤ 10 := by simp) → dPrim pTup (aCons (dC (.str k)) fa) ρ ([] : Sto) = some (.tup (.str k :: ds), []) := fun {k ds fa} h hz => prim_of (argsC rfl h) (by rw [v_pTup, if_pos (size_ok (by simp; omega))])
  by_cases k2 : kd < 2
  · exact ⟨.copy x a1, ⟨hx, ha1⟩, trivial, front rfl (yes (cl 2) k2 (it (args2 rfl rfl)))⟩
  by_cases e2 : kd = 2
  · have sg : ∃ g, g ∈ signL ∧ pIx (.str "+-*<=&|^") (.int (w_pt c 1 8)) ([] : Sto) = some (.str g, []) := by
      have h : ∀ i : Nat, i < 8 → ∃ g ∈ signL, atI ("+-*<=&|^" : Str).cps.toList (i : Int) = some ((g.cps.toList).headD 0) ∧ g = ⟨#[(g.cps.toList).headD 0]⟩ := by decide +kernel
      obtain ⟨g, h1, h2, h3⟩ := h (w_pt c 1 8).toNat (by omega)
      rw [Int.toNat_of_nonneg p1.1] at h2
      exact ⟨g, h1, (Dn.ix_str (by decide +kernel) h2).trans (by rw [← h3])⟩
    obtain ⟨g, hg, eg⟩ := sg
    exact ⟨.op x g a1 a2, ⟨hx, hg, ha1, ha2⟩, trivial, front rfl (no (cl 2) k2 (yes (ce 2) e2 (it (argsC rfl (argsC (bin_of (x := .str "+-*<=&|^") rfl (w_part_of (c := c) (j := 1) (m := 8) rfl rfl rfl (by decide)) eg) (args2 rfl rfl))))))⟩
  by_cases e3 : kd = 3
  · exact ⟨.load x y, ⟨hx, hy⟩, trivial, front rfl (no (cl 2) k2 (no (ce 2) e2 (yes (ce 3) e3 (it (args2 rfl rfl)))))⟩
  by_cases e4 : kd = 4
  · exact ⟨.store y a1, ⟨hy, ha1⟩, trivial, front rfl (no (cl 2) k2 (no (ce 2) e2 (no (ce 3) e3 (yes (ce 4) e4 (it (args2 rfl rfl))))))⟩
  by_cases e5 : kd = 5
  · exact ⟨.take x y a1, ⟨hx, hy, ha1⟩, trivial, front rfl (no (cl 2) k2 (no (ce 2) e2 (no (ce 3) e3 (no (ce 4) e4 (yes (ce 5) e5 (it (args3 rfl rfl rfl)))))))⟩
  by_cases e6 : kd = 6
  · exact ⟨.lay y a1 a2, ⟨hy, ha1, ha2⟩, trivial, front rfl (no (cl 2) k2 (no (ce 2) e2 (no (ce 3) e3 (no (ce 4) e4 (no (ce 5) e5 (yes (ce 6) e6 (it (args3 rfl rfl rfl))))))))⟩
  by_cases e7 : kd = 7
  · exact ⟨.hear x, hx, trivial, front rfl (no (cl 2) k2 (no (ce 2) e2 (no (ce 3) e3 (no (ce 4) e4 (no (ce 5) e5 (no (ce 6) e6 (yes (ce 7) e7 (it (args1 rfl)))))))))⟩
  have ix2 : ∀ {d0 d1 : DV} {S : Sto} {z : Int}, (z = 0 → pIx (.lst .own [d0, d1]) (.int z) S = some (d0, S)) ∧ (z = 1 → pIx (.lst .own [d0, d1]) (.int z) S = some (d1, S)) := fun {d0 d1 S z} => ⟨fun h => by rw [h]; exact ix_seq (atD_nat (k := 0) rfl), fun h => by rw [h]; exact ix_seq (atD_nat (k := 1) rfl)⟩
  by_cases k10 : kd < 10
  · have sub : dBin pSub (dVar 7) (dC (.int 8)) ρ ([] : Sto) = some (.int (kd - 8), []) := subI_of (a := kd) (b := 8) rfl rfl
    have hk : kd = 8 ∨ kd = 9 := by omega
    rcases hk with h8 | h9
    · have e : dBin pIx (dPrim pLst (aCons (dC (.str "say")) (aCons (dC (.str "end")) aNil))) (dBin pSub (dVar 7) (dC (.int 8))) ρ ([] : Sto) = some (.str "say", []) := bin_of (x := .lst .own [.str "say", .str "end"]) rfl sub (ix2.1 (by omega))
      exact ⟨.say a1, ha1, trivial, front rfl (no (cl 2) k2 (no (ce 2) e2 (no (ce 3) e3 (no (ce 4) e4 (no (ce 5) e5 (no (ce 6) e6 (no (ce 7) e7 (yes (cl 10) k10 (prim_of (args2 e rfl) rfl)))))))))⟩
    · have e : dBin pIx (dPrim pLst (aCons (dC (.str "say")) (aCons (dC (.str "end")) aNil))) (dBin pSub (dVar 7) (dC (.int 8))) ρ ([] : Sto) = some (.str "end", []) := bin_of (x := .lst .own [.str "say", .str "end"]) rfl sub (ix2.2 (by omega))
      exact ⟨.endr a1, ha1, trivial, front rfl (no (cl 2) k2 (no (ce 2) e2 (no (ce 3) e3 (no (ce 4) e4 (no (ce 5) e5 (no (ce 6) e6 (no (ce 7) e7 (yes (cl 10) k10 (prim_of (args2 e rfl) rfl)))))))))⟩
  · let gl : Nat := (w_pt c 1 ((many : Int) + 1)).toNat
    have eg : w_pt c 1 ((many : Int) + 1) = (gl : Nat) := (Int.toNat_of_nonneg pg.1).symm
    let ρ8 := N j3 j4 j5 j6 j7 (some (.int (gl : Nat)))
    have s8 : dSet 8 (dPrim (cP (pureOf F_law_part) []) (aCons (dVar 0) (aCons (dC (.int 1)) (aCons (dBin pAdd (dVar 2) (dC (.int 1))) aNil)))) ρ ([] : Sto) = some (.nx ρ8 []) := by
      refine set_of ((w_part_of (c := c) (j := 1) (m := (many : Int) + 1) rfl rfl (addI_of (a := (many : Nat)) (b := 1) rfl rfl) (by omega)).trans ?_)
      rw [eg]
    have gle : gl < many + 1 := by show (w_pt c 1 ((many : Int) + 1)).toNat < _; omega
    have el : dPrim pLst (aCons (dPrim pTup (aCons (dC (.str "if")) (aCons (dVar 4) (aCons (dVar 8) aNil)))) (aCons (dPrim pTup (aCons (dC (.str "go")) (aCons (dVar 8) aNil))) aNil)) ρ8 ([] : Sto) = some (.lst .own [(PRow.ifr a1 gl).d, (PRow.go gl).d], []) :=
      prim_of (args2 (prim_of (args3 rfl rfl rfl) rfl) (prim_of (args2 rfl rfl) rfl)) rfl
    have sub : dBin pSub (dVar 7) (dC (.int 10)) ρ8 ([] : Sto) = some (.int (kd - 10), []) := subI_of (a := kd) (b := 10) rfl rfl
    have hk : kd = 10 ∨ kd = 11 := by omega
    rcases hk with h8 | h9
    · exact ⟨.ifr a1 gl, ha1, gle, front rfl (no (cl 2) k2 (no (ce 2) e2 (no (ce 3) e3 (no (ce 4) e4 (no (ce 5) e5 (no (ce 6) e6 (no (ce 7) e7 (no (cl 10) k10 ((seq_nx s8).trans (ret_of (bin_of el sub (ix2.1 (by omega)))))))))))))⟩
    · exact ⟨.go gl, trivial, gle, front rfl (no (cl 2) k2 (no (ce 2) e2 (no (ce 3) e3 (no (ce 4) e4 (no (ce 5) e5 (no (ce 6) e6 (no (ce 7) e7 (no (cl 10) k10 ((seq_nx s8).trans (ret_of (bin_of el sub (ix2.2 (by omega)))))))))))))⟩
end Lk12

namespace Lk12
open PySem PySem.Spec PyProof.Rows L2 Dn
/-! ### programs -/
structure n_Pr (cells shelves : List Trd) (rows : List PRow) : Prop where
  c : ∀ c ∈ cells, nameB c.1 = true ∧ In40 c.2.1
  s : ∀ c ∈ shelves, nameB c.1 = true ∧ 1 ≤ c.2.1 ∧ c.2.1 ≤ 8
  nd : (cells.map (·.1) ++ shelves.map (·.1)).Nodup
  r : ∀ r ∈ rows, RowT r ∧ leadsIn (rows.length + 1) r
  n0 : 0 < rows.length
  nz : rows.length ≤ 60
  cz : cells.length ≤ 8
  sz : shelves.length ≤ 4
abbrev n_PD (cells shelves : List Trd) (rows : List PRow) : DV := .tup [.tup (cells.map trD), .tup (shelves.map trD), .tup (rows.map PRow.d)]
theorem n_PD_plain {cells shelves : List Trd} {rows : List PRow} : plain (n_PD cells shelves rows) = true := by
  have tp : ∀ l : List Trd, plainL (l.map trD) = true := fun l => plainL_iff.mpr fun d hd => by
    obtain ⟨c, _, rfl⟩ := List.mem_map.mp hd
    rfl
  have rp : plainL (rows.map PRow.d) = true := plainL_iff.mpr fun d hd => by
    obtain ⟨c, _, rfl⟩ := List.mem_map.mp hd
    exact PRow.plain_d
  simp [tp, rp]
theorem n_nd {n : Nat} {f : Nat → Str} (h : ∀ i j, i < n → j < n → f i = f j → i = j) : ((List.range n).map f).Nodup :=
  List.pairwise_map.mpr (List.Pairwise.imp_of_mem (fun {i j} hi hj hij z => hij (h i j (List.mem_range.mp hi) (List.mem_range.mp hj) z)) List.nodup_range)
theorem n_prog (ns : List Int) (at_ : Nat) (ha : at_ ≤ 29) : ∃ cells shelves rows, n_Pr cells shelves rows ∧ pureOf F_law_program [.lst .ext (ns.map .int), .int (at_ : Nat)] = some (n_PD cells shelves rows) := by
  let Sc : DV := .lst .ext (ns.map .int)
  have pSc : plain Sc = true := by simp [Sc]
  obtain ⟨cf, hcf⟩ := choose_lt (n := 100) (P := fun i (x : Int) => pureOf F_law_cell [.lst .ext (ns.map .int), .int (i : Nat)] = some (.int x)) 0 fun i hi => w_cell .ext ns i hi
  have cell : ∀ {ρ : Ev} {S : Sto} {e : DE} (i : Nat), i < 100 → dVar 0 ρ S = some (Sc, S) → e ρ S = some (.int (i : Nat), S) → dPrim (cP (pureOf F_law_cell) []) (aCons (dVar 0) (aCons e aNil)) ρ S = some (.int (cf i), S) := fun {ρ S e} i hi h0 he =>
    callPP (args2 h0 he) (by rw [plainL_cons, pSc]; rfl) (hcf i hi)
  let c := cf at_
  let b := cf (at_ + 1)
  let N (x2 x3 x4 x5 x6 x7 x8 x9 x10 x11 : Option DV) : List (Option DV) := [some Sc, some (.int (at_ : Nat)), x2, x3, x4, x5, x6, x7, x8, x9, x10, x11]
  let o : Option DV := none
  let j2 : Option DV := some (.int c)
  let j3 : Option DV := some (.int b)
  have s2 : dSet 2 (dPrim (cP (pureOf F_law_cell) []) (aCons (dVar 0) (aCons (dVar 1) aNil))) (N o o o o o o o o o o) ([] : Sto) = some (.nx (N j2 o o o o o o o o o) []) := set_of (cell at_ (by omega) rfl rfl)
  have s3 : dSet 3 (dPrim (cP (pureOf F_law_cell) []) (aCons (dVar 0) (aCons (dBin pAdd (dVar 1) (dC (.int 1))) aNil))) (N j2 o o o o o o o o o) ([] : Sto) = some (.nx (N j2 j3 o o o o o o o o) []) := set_of (cell (at_ + 1) (by omega) rfl (addI_of (a := (at_ : Nat)) (b := 1) rfl rfl))
  have pt : ∀ {ρ : Ev} {S : Sto} {f : DE} {x : Int} (j : Nat) (m : Int), 0 < m → f ρ S = some (.int x, S) → dPrim (cP (pureOf F_law_part) []) (aCons f (aCons (dC (.int (j : Nat))) (aCons (dC (.int m)) aNil))) ρ S = some (.int (w_pt x j m), S) := fun {ρ S f x} j m hm h => w_part_of h rfl rfl hm
  -- how many rows, cells, shelves
  have s4 : dSet 4 (dBin pAdd (dC (.int 1)) (dPrim (cP (pureOf F_law_part) []) (aCons (dVar 2) (aCons (dC (.int 0)) (aCons (dC (.int 9)) aNil))))) (N j2 j3 o o o o o o o o) ([] : Sto) = some (.nx (N j2 j3 (some (.int (1 + w_pt c 0 9))) o o o o o o o) []) :=
    set_of (addI_of (a := 1) rfl (pt 0 9 (by decide) rfl))
  let j4 : Option DV := some (.int (1 + w_pt c 0 9))
  have s5 : dSet 5 (dPrim pLst (aCons (dPrim (cP (pureOf F_law_part) []) (aCons (dVar 2) (aCons (dC (.int 1)) (aCons (dC (.int 4)) aNil)))) (aCons (dPrim (cP (pureOf F_law_part) []) (aCons (dVar 2) (aCons (dC (.int 2)) (aCons (dC (.int 3)) aNil)))) aNil))) (N j2 j3 j4 o o o o o o o) ([] : Sto) = some (.nx (N j2 j3 j4 (some (.lst .own [.int (w_pt c 1 4), .int (w_pt c 2 3)])) o o o o o o) []) :=
    set_of (prim_of (args2 (pt 1 4 (by decide) rfl) (pt 2 3 (by decide) rfl)) rfl)
  have s6 : ∃ n m : Nat, n ≤ 8 ∧ m ≤ 4 ∧ dIfS (dBin (pEq false) (dPrim (cP (pureOf F_law_part) []) (aCons (dVar 2) (aCons (dC (.int 3)) (aCons (dC (.int 4)) aNil)))) (dC (.int 1))) (dSet 5 (dPrim pLst (aCons (dC (.int 8)) (aCons (dC (.int 4)) aNil)))) dNext (N j2 j3 j4 (some (.lst .own [.int (w_pt c 1 4), .int (w_pt c 2 3)])) o o o o o o) ([] : Sto) = some (.nx (N j2 j3 j4 (some (.lst .own [.int (n : Nat), .int (m : Nat)])) o o o o o o) []) := by
    have cc : dBin (pEq false) (dPrim (cP (pureOf F_law_part) []) (aCons (dVar 2) (aCons (dC (.int 3)) (aCons (dC (.int 4)) aNil)))) (dC (.int 1)) (N j2 j3 j4 (some (.lst .own [.int (w_pt c 1 4), .int (w_pt c 2 3)])) o o o o o o) ([] : Sto) = some (.bl (decide (w_pt c 3 4 = 1)), []) := bin_of (pt 3 4 (by decide) rfl) (y := .int 1) rfl v_eqI
    by_cases q : w_pt c 3 4 = 1
    · exact ⟨8, 4, by decide, by decide, (ifS_t (cc.trans (by rw [decide_eq_true q]))).trans rfl⟩
    · have p1 := w_pt_in (c := c) (j := 1) (m := 4) (by decide)
      have p2 := w_pt_in (c := c) (j := 2) (m := 3) (by decide)
      refine ⟨(w_pt c 1 4).toNat, (w_pt c 2 3).toNat, by omega, by omega, (ifS_f (cc.trans (by rw [decide_eq_false q]))).trans ?_⟩
      rw [Int.toNat_of_nonneg p1.1, Int.toNat_of_nonneg p2.1]
      rfl
  obtain ⟨n, m, hn, hm, s6⟩ := s6
  let j5 : Option DV := some (.lst .own [.int (n : Nat), .int (m : Nat)])
  have s7 : ∃ r : Nat, 1 ≤ r ∧ r ≤ 60 ∧ dIfS (dBin (pEq false) (dPrim (cP (pureOf F_law_part) []) (aCons (dVar 2) (aCons (dC (.int 4)) (aCons (dC (.int 4)) aNil)))) (dC (.int 1))) (dSet 4 (dBin pAdd (dC (.int 1)) (dPrim (cP (pureOf F_law_part) []) (aCons (dVar 2) (aCons (dC (.int 5)) (aCons (dC (.int 60)) aNil)))))) dNext (N j2 j3 j4 j5 o o o o o o) ([] : Sto) = some (.nx (N j2 j3 (some (.int (r : Nat))) j5 o o o o o o) []) := by
    have cc : dBin (pEq false) (dPrim (cP (pureOf F_law_part) []) (aCons (dVar 2) (aCons (dC (.int 4)) (aCons (dC (.int 4)) aNil)))) (dC (.int 1)) (N j2 j3 j4 j5 o o o o o o) ([] : Sto) = some (.bl (decide (w_pt c 4 4 = 1)), []) := bin_of (pt 4 4 (by decide) rfl) (y := .int 1) rfl v_eqI
    by_cases q : w_pt c 4 4 = 1
    · have p1 := w_pt_in (c := c) (j := 5) (m := 60) (by decide)
      refine ⟨(1 + w_pt c 5 60).toNat, by omega, by omega, (ifS_t (cc.trans (by rw [decide_eq_true q]))).trans ?_⟩
      rw [Int.toNat_of_nonneg (show 0 ≤ 1 + w_pt c 5 60 by omega)]
      exact set_of (addI_of (a := 1) rfl (pt 5 60 (by decide) rfl))
    · have p1 := w_pt_in (c := c) (j := 0) (m := 9) (by decide)
      refine ⟨(1 + w_pt c 0 9).toNat, by omega, by omega, (ifS_f (cc.trans (by rw [decide_eq_false q]))).trans ?_⟩
      rw [Int.toNat_of_nonneg (show 0 ≤ 1 + w_pt c 0 9 by omega)]
      rfl
  obtain ⟨rn, r1, r60, s7⟩ := s7
  let k4 : Option DV := some (.int (rn : Nat))
  -- cells
  have cbody : ∀ i, i < n → ∃ t : Trd, (t.1 = n_nm b (10 + i) ∧ In40 t.2.1) ∧ ∀ (x7 x8 x9 x10 x11 : Option DV) (acc : List DV), acc.length < 1000 → ∃ y10 y11, (dSeq (dSet 10 (dPrim (cP (pureOf F_law_cell) []) (aCons (dVar 0) (aCons (dBin pAdd (dBin pAdd (dVar 1) (dC (.int 2))) (dVar 7)) aNil))))
      (dSeq (dSet 11 (dBin pIx (dPrim pLst (aCons (dPrim (cP (pureOf F_law_part) []) (aCons (dVar 10) (aCons (dC (.int 1)) (aCons (dC (.int 12)) aNil)))) (aCons (dBin pMod (dBin pMul (dVar 10) (dC (.int 94906267))) (dBin pPow (dC (.int 2)) (dC (.int 40)))) aNil))) (dPrim (cP (pureOf F_law_part) []) (aCons (dVar 10) (aCons (dC (.int 2)) (aCons (dC (.int 2)) aNil))))))
      (dExpr (dMt pAppend (dVar 6) (aCons (dPrim pTup (aCons (dPrim (cP (pureOf F_law_name) []) (aCons (dVar 3) (aCons (dBin pAdd (dC (.int 10)) (dVar 7)) aNil))) (aCons (dVar 11) (aCons (dBin (pEq false) (dPrim (cP (pureOf F_law_part) []) (aCons (dVar 10) (aCons (dC (.int 0)) (aCons (dC (.int 2)) aNil)))) (dC (.int 1))) aNil)))) aNil))))) (N j2 j3 k4 j5 (some (.loc 0)) (some (.int (i : Nat))) x8 x9 x10 x11) [.lst acc] = some (.nx (N j2 j3 k4 j5 (some (.loc 0)) (some (.int (i : Nat))) x8 x9 y10 y11) [.lst (acc ++ [trD t])]) := fun i hi => by
    let x := cf (at_ + 2 + i)
    have p2 := w_pt_in (c := x) (j := 2) (m := 2) (by decide)
    have p1 := w_pt_in (c := x) (j := 1) (m := 12) (by decide)
    let v1 : Int := w_pt x 1 12
    let v2 : Int := x * 94906267 % 1099511627776
    have h1 : In40 v1 := ⟨p1.1, by show w_pt x 1 12 < 1099511627776; omega⟩
    have h2 : In40 v2 := ⟨Int.emod_nonneg _ (by decide), Int.emod_lt_of_pos _ (by decide)⟩
    obtain ⟨v, hv, ev⟩ : ∃ v : Int, In40 v ∧ ∀ S : Sto, pIx (.lst .own [.int v1, .int v2]) (.int (w_pt x 2 2)) S = some (.int v, S) := by
      rcases (show w_pt x 2 2 = 0 ∨ w_pt x 2 2 = 1 by omega) with z | z
      · exact ⟨v1, h1, fun S => by rw [z]; exact ix_seq (atD_nat (k := 0) rfl)⟩
      · exact ⟨v2, h2, fun S => by rw [z]; exact ix_seq (atD_nat (k := 1) rfl)⟩
    refine ⟨(n_nm b (10 + i), v, decide (w_pt x 0 2 = 1)), ⟨rfl, hv⟩, fun x7 x8 x9 x10 x11 acc hz => ⟨some (.int x), some (.int v), ?_⟩⟩
    let ρ (x10 x11 : Option DV) := N j2 j3 k4 j5 (some (.loc 0)) (some (.int (i : Nat))) x8 x9 x10 x11
    have t1 : dSet 10 (dPrim (cP (pureOf F_law_cell) []) (aCons (dVar 0) (aCons (dBin pAdd (dBin pAdd (dVar 1) (dC (.int 2))) (dVar 7)) aNil))) (ρ x10 x11) [.lst acc] = some (.nx (ρ (some (.int x)) x11) [.lst acc]) :=
      set_of (cell (at_ + 2 + i) (by omega) rfl (addI_of (addI_of (a := (at_ : Nat)) (b := 2) rfl rfl) (b := (i : Nat)) rfl))
    have t2 : dSet 11 (dBin pIx (dPrim pLst (aCons (dPrim (cP (pureOf F_law_part) []) (aCons (dVar 10) (aCons (dC (.int 1)) (aCons (dC (.int 12)) aNil)))) (aCons (dBin pMod (dBin pMul (dVar 10) (dC (.int 94906267))) (dBin pPow (dC (.int 2)) (dC (.int 40)))) aNil))) (dPrim (cP (pureOf F_law_part) []) (aCons (dVar 10) (aCons (dC (.int 2)) (aCons (dC (.int 2)) aNil))))) (ρ (some (.int x)) x11) [.lst acc] = some (.nx (ρ (some (.int x)) (some (.int v))) [.lst acc]) :=
      set_of (bin_of (prim_of (args2 (pt 1 12 (by decide) rfl) (modI_of (b := 1099511627776) (bin_of (x := .int x) (y := .int 94906267) rfl rfl (v_mulI (by decide))) (bin_of (x := .int 2) (y := .int 40) rfl rfl n_p40) (by decide))) rfl) (pt 2 2 (by decide) rfl) (ev _))
    have nm : dPrim (cP (pureOf F_law_name) []) (aCons (dVar 3) (aCons (dBin pAdd (dC (.int 10)) (dVar 7)) aNil)) (ρ (some (.int x)) (some (.int v))) [.lst acc] = some (.str (n_nm b (10 + i)), [.lst acc]) := by
      have := n_name_of (f := dVar 3) (g := dBin pAdd (dC (.int 10)) (dVar 7)) (ρ := ρ (some (.int x)) (some (.int v))) (S := [.lst acc]) (b := b) rfl (addI_of (a := 10) (b := (i : Nat)) rfl rfl) (by omega)
      rw [show ((10 : Int) + (i : Nat)).toNat = 10 + i by omega] at this
      exact this
    have t3 : dExpr (dMt pAppend (dVar 6) (aCons (dPrim pTup (aCons (dPrim (cP (pureOf F_law_name) []) (aCons (dVar 3) (aCons (dBin pAdd (dC (.int 10)) (dVar 7)) aNil))) (aCons (dVar 11) (aCons (dBin (pEq false) (dPrim (cP (pureOf F_law_part) []) (aCons (dVar 10) (aCons (dC (.int 0)) (aCons (dC (.int 2)) aNil)))) (dC (.int 1))) aNil)))) aNil)) (ρ (some (.int x)) (some (.int v))) [.lst acc] = some (.nx (ρ (some (.int x)) (some (.int v))) [.lst (acc ++ [trD (n_nm b (10 + i), v, decide (w_pt x 0 2 = 1))])]) :=
      append_of (n := 0) (xs := acc) (y := trD (n_nm b (10 + i), v, decide (w_pt x 0 2 = 1))) rfl rfl (prim_of (args3 nm rfl (bin_of (pt 0 2 (by decide) rfl) (y := .int 1) rfl v_eqI)) rfl) (by omega)
    exact (seq_nx t1).trans ((seq_nx t2).trans t3)
  obtain ⟨ct, hct⟩ := choose_lt (n := n) (P := fun i (t : Trd) => (t.1 = n_nm b (10 + i) ∧ In40 t.2.1) ∧ _) (("" : Str), (0 : Int), false) cbody
  let cells : List Trd := (List.range n).map ct
  obtain ⟨ρ1, f1, y7, y10, y11, rfl⟩ := for_app (D := fun (i : Nat) => DV.int i) (E := fun i => trD (ct i)) (g := gSet 7) (I := fun ρ => ∃ x7 x10 x11, ρ = N j2 j3 k4 j5 (some (.loc 0)) x7 o o x10 x11) (st := fun b => [.lst b]) 500 (List.range n) [] (N j2 j3 k4 j5 (some (.loc 0)) o o o o o) ⟨_, _, _, rfl⟩ (by simp; omega) fun i hi bb ρ hb hI => by
    obtain ⟨x7, x10, x11, rfl⟩ := hI
    obtain ⟨y10, y11, e⟩ := (hct i (List.mem_range.mp hi)).2 x7 o o x10 x11 bb (by omega)
    exact ⟨_, _, _, rfl, e, _, _, _, rfl⟩
  rw [List.nil_append] at f1
  let CL : Cell := .lst ((List.range n).map fun i => trD (ct i))
  -- shelves
  have sbody : ∀ i, i < m → ∃ t : Trd, (t.1 = n_nm b (18 + i) ∧ 1 ≤ t.2.1 ∧ t.2.1 ≤ 8) ∧ ∀ (x10 x11 : Option DV) (acc : List DV), acc.length < 1000 → ∃ y10, (dSeq (dSet 10 (dPrim (cP (pureOf F_law_cell) []) (aCons (dVar 0) (aCons (dBin pAdd (dBin pAdd (dVar 1) (dC (.int 10))) (dVar 7)) aNil))))
      (dExpr (dMt pAppend (dVar 8) (aCons (dPrim pTup (aCons (dPrim (cP (pureOf F_law_name) []) (aCons (dVar 3) (aCons (dBin pAdd (dC (.int 18)) (dVar 7)) aNil))) (aCons (dBin pAdd (dC (.int 1)) (dPrim (cP (pureOf F_law_part) []) (aCons (dVar 10) (aCons (dC (.int 1)) (aCons (dC (.int 8)) aNil))))) (aCons (dBin (pEq false) (dPrim (cP (pureOf F_law_part) []) (aCons (dVar 10) (aCons (dC (.int 2)) (aCons (dC (.int 2)) aNil)))) (dC (.int 1))) aNil)))) aNil)))) (N j2 j3 k4 j5 (some (.loc 0)) (some (.int (i : Nat))) (some (.loc 1)) o x10 x11) [CL, .lst acc] = some (.nx (N j2 j3 k4 j5 (some (.loc 0)) (some (.int (i : Nat))) (some (.loc 1)) o y10 x11) [CL, .lst (acc ++ [trD t])]) := fun i hi => by
    let x := cf (at_ + 10 + i)
    have p1 := w_pt_in (c := x) (j := 1) (m := 8) (by decide)
    refine ⟨(n_nm b (18 + i), 1 + w_pt x 1 8, decide (w_pt x 2 2 = 1)), ⟨rfl, by show 1 ≤ 1 + w_pt x 1 8; omega, by show 1 + w_pt x 1 8 ≤ 8; omega⟩, fun x10 x11 acc hz => ⟨some (.int x), ?_⟩⟩
    let S : Sto := [CL, .lst acc]
    let ρ (x10 : Option DV) := N j2 j3 k4 j5 (some (.loc 0)) (some (.int (i : Nat))) (some (.loc 1)) o x10 x11
    have t1 : dSet 10 (dPrim (cP (pureOf F_law_cell) []) (aCons (dVar 0) (aCons (dBin pAdd (dBin pAdd (dVar 1) (dC (.int 10))) (dVar 7)) aNil))) (ρ x10) S = some (.nx (ρ (some (.int x))) S) :=
      set_of (cell (at_ + 10 + i) (by omega) rfl (addI_of (addI_of (a := (at_ : Nat)) (b := 10) rfl rfl) (b := (i : Nat)) rfl))
    have nm : dPrim (cP (pureOf F_law_name) []) (aCons (dVar 3) (aCons (dBin pAdd (dC (.int 18)) (dVar 7)) aNil)) (ρ (some (.int x))) S = some (.str (n_nm b (18 + i)), S) := by
      have := n_name_of (f := dVar 3) (g := dBin pAdd (dC (.int 18)) (dVar 7)) (ρ := ρ (some (.int x))) (S := S) (b := b) rfl (addI_of (a := 18) (b := (i : Nat)) rfl rfl) (by omega)
      rw [show ((18 : Int) + (i : Nat)).toNat = 18 + i by omega] at this
      exact this
    exact (seq_nx t1).trans (append_of (n := 1) (xs := acc) (y := trD (n_nm b (18 + i), 1 + w_pt x 1 8, decide (w_pt x 2 2 = 1))) rfl rfl (prim_of (args3 nm (addI_of (a := 1) rfl (pt 1 8 (by decide) rfl)) (bin_of (pt 2 2 (by decide) rfl) (y := .int 1) rfl v_eqI)) rfl) (by omega))
  obtain ⟨sf, hsf⟩ := choose_lt (n := m) (P := fun i (t : Trd) => (t.1 = n_nm b (18 + i) ∧ 1 ≤ t.2.1 ∧ t.2.1 ≤ 8) ∧ _) (("" : Str), (0 : Int), false) sbody
  let shelves : List Trd := (List.range m).map sf
  obtain ⟨ρ2, f2, z7, z10, rfl⟩ := for_app (D := fun (i : Nat) => DV.int i) (E := fun i => trD (sf i)) (g := gSet 7) (I := fun ρ => ∃ x7 x10, ρ = N j2 j3 k4 j5 (some (.loc 0)) x7 (some (.loc 1)) o x10 y11) (st := fun b => [CL, .lst b]) 500 (List.range m) [] (N j2 j3 k4 j5 (some (.loc 0)) y7 (some (.loc 1)) o y10 y11) ⟨_, _, rfl⟩ (by simp; omega) fun i hi bb ρ hb hI => by
    obtain ⟨x7, x10, rfl⟩ := hI
    obtain ⟨y10, e⟩ := (hsf i (List.mem_range.mp hi)).2 x10 y11 bb (by omega)
    exact ⟨_, _, _, rfl, e, _, _, rfl⟩
  rw [List.nil_append] at f2
  let SL : Cell := .lst ((List.range m).map fun i => trD (sf i))
  -- rows
  obtain ⟨rf, hrf⟩ := choose_lt (n := rn) (P := fun i (r : PRow) => RowT r ∧ leadsIn (rn + 1) r ∧ pureOf F_law_row [.int (cf (at_ + 4 + i)), .int b, .int (rn : Nat)] = some r.d) (.go 0) fun i _ => n_row (cf (at_ + 4 + i)) b rn
  let rows : List PRow := (List.range rn).map rf
  let S2 : Sto := [CL, SL]
  have s9 : dSet 9 (dLc (iRange1 (aCons (dVar 4) aNil)) (gSet 7) (dC (.bl true)) (dPrim (cP (pureOf F_law_row) []) (aCons (dPrim (cP (pureOf F_law_cell) []) (aCons (dVar 0) (aCons (dBin pAdd (dBin pAdd (dVar 1) (dC (.int 4))) (dVar 7)) aNil))) (aCons (dVar 3) (aCons (dVar 4) aNil)))) [7]) (N j2 j3 k4 j5 (some (.loc 0)) z7 (some (.loc 1)) o z10 y11) S2 = some (.nx (N j2 j3 k4 j5 (some (.loc 0)) z7 (some (.loc 1)) (some (.lst .own (rows.map PRow.d))) z10 y11) S2) := by
    refine set_of ((dLc_of (vs := [7]) (rgN_of (n := rn) rfl (by omega)) (lc_all (D := fun (i : Nat) => DV.int i) (E := fun i => (rf i).d) (K := List.range rn) fun i hi => ?_) (size_ok (by rw [List.length_map, List.length_range]; omega))).trans ?_)
    · have hi := List.mem_range.mp hi
      exact ⟨N j2 j3 k4 j5 (some (.loc 0)) (some (.int (i : Nat))) (some (.loc 1)) o z10 y11, rfl, rfl, callPP (args3 (cell (at_ + 4 + i) (by omega) rfl (addI_of (addI_of (a := (at_ : Nat)) (b := 4) rfl rfl) (b := (i : Nat)) rfl)) rfl rfl) rfl (hrf i hi).2.2⟩
    · show _ = some (DV.lst .own (((List.range rn).map rf).map PRow.d), S2)
      rw [List.map_map]; rfl
  have eC : (List.range n).map (fun i => trD (ct i)) = cells.map trD := by show _ = ((List.range n).map ct).map trD; rw [List.map_map]; rfl
  have eS : (List.range m).map (fun i => trD (sf i)) = shelves.map trD := by show _ = ((List.range m).map sf).map trD; rw [List.map_map]; rfl
  have rl : rows.length = rn := by show ((List.range rn).map rf).length = rn; rw [List.length_map, List.length_range]
  refine ⟨cells, shelves, rows, ⟨fun t ht => ?_, fun t ht => ?_, ?_, fun r hr => ?_, by rw [rl]; exact r1, by rw [rl]; exact r60, by show ((List.range n).map ct).length ≤ 8; rw [List.length_map, List.length_range]; exact hn, by show ((List.range m).map sf).length ≤ 4; rw [List.length_map, List.length_range]; exact hm⟩, ?_⟩
  · obtain ⟨i, hi, rfl⟩ := List.mem_map.mp ht
    obtain ⟨⟨h1, h2⟩, _⟩ := hct i (List.mem_range.mp hi)
    exact ⟨by rw [h1]; exact n_nm_ok _ _, h2⟩
  · obtain ⟨i, hi, rfl⟩ := List.mem_map.mp ht
    obtain ⟨⟨h1, h2⟩, _⟩ := hsf i (List.mem_range.mp hi)
    exact ⟨by rw [h1]; exact n_nm_ok _ _, h2⟩
  · have ec : cells.map (·.1) = (List.range n).map fun i => n_nm b (10 + i) := by
      show ((List.range n).map ct).map _ = _
      rw [List.map_map]
      exact List.map_congr_left fun i hi => (hct i (List.mem_range.mp hi)).1.1
    have es : shelves.map (·.1) = (List.range m).map fun i => n_nm b (18 + i) := by
      show ((List.range m).map sf).map _ = _
      rw [List.map_map]
      exact List.map_congr_left fun i hi => (hsf i (List.mem_range.mp hi)).1.1
    rw [ec, es, List.nodup_append]
    refine ⟨n_nd fun i j hi hj z => ?_, n_nd fun i j hi hj z => ?_, fun a ha d hd z => ?_⟩
    · have := n_nm_inj (b := b) (i := 10 + i) (j := 10 + j) (by omega) (by omega) z
      omega
    · have := n_nm_inj (b := b) (i := 18 + i) (j := 18 + j) (by omega) (by omega) z
      omega
    · obtain ⟨i, hi, rfl⟩ := List.mem_map.mp ha
      obtain ⟨j, hj, rfl⟩ := List.mem_map.mp hd
      have := n_nm_inj (b := b) (i := 10 + i) (j := 18 + j) (by have := List.mem_range.mp hi; omega) (by have := List.mem_range.mp hj; omega) z
      have := List.mem_range.mp hi
      omega
  · obtain ⟨i, hi, rfl⟩ := List.mem_map.mp hr
    obtain ⟨h1, h2, _⟩ := hrf i (List.mem_range.mp hi)
    rw [rl]
    exact ⟨h1, h2⟩
  · have i0 : dBin pIx (dVar 5) (dC (.int 0)) (N j2 j3 k4 j5 (some (.loc 0)) o o o o o) [.lst []] = some (.int (n : Nat), [.lst []]) := bin_of (x := .lst .own [.int (n : Nat), .int (m : Nat)]) (y := .int 0) rfl rfl (ix_seq (atD_nat (k := 0) rfl))
    have i1 : dBin pIx (dVar 5) (dC (.int 1)) (N j2 j3 k4 j5 (some (.loc 0)) y7 (some (.loc 1)) o y10 y11) [CL, .lst []] = some (.int (m : Nat), [CL, .lst []]) := bin_of (x := .lst .own [.int (n : Nat), .int (m : Nat)]) (y := .int 1) rfl rfl (ix_seq (atD_nat (k := 1) rfl))
    have g1 := for_of (rgN_of i0 (by omega)) f1
    have g2 := for_of (rgN_of i1 (by omega)) f2
    let ρf := N j2 j3 k4 j5 (some (.loc 0)) z7 (some (.loc 1)) (some (.lst .own (rows.map PRow.d))) z10 y11
    have u1 : dPrim pTuple (aCons (dVar 6) aNil) ρf S2 = some (.tup (cells.map trD), S2) := by
      rw [← eC]
      exact prim_of (args1 (x := .loc 0) rfl) rfl
    have u2 : dPrim pTuple (aCons (dVar 8) aNil) ρf S2 = some (.tup (shelves.map trD), S2) := by
      rw [← eS]
      exact prim_of (args1 (x := .loc 1) rfl) rfl
    have u3 : dPrim pTuple (aCons (dVar 9) aNil) ρf S2 = some (.tup (rows.map PRow.d), S2) := tupL_of (k := .own) rfl
    refine pureOf_of (S' := S2) (run_rt rfl ?_) n_PD_plain
    exact (seq_nx s2).trans ((seq_nx s3).trans ((seq_nx s4).trans ((seq_nx s5).trans ((seq_nx s6).trans ((seq_nx s7).trans ((seq_nx (ρ' := N j2 j3 k4 j5 (some (.loc 0)) o o o o o) (S' := [.lst []]) rfl).trans ((seq_nx g1).trans ((seq_nx (ρ' := N j2 j3 k4 j5 (some (.loc 0)) y7 (some (.loc 1)) o y10 y11) (S' := [CL, .lst []]) rfl).trans ((seq_nx g2).trans ((seq_nx s9).trans (ret_of (prim_of (args3 u1 u2 u3) rfl))))))))))))
end Lk12

namespace Lk12
open PySem PySem.Spec PyProof.Rows L2 Dn
/-! ### what is written is read -/
def rbS (k : Nat) : Str := "r" ++ numS k
theorem rbS_tl (k : Nat) : TL.tl (rbS k) = 114 :: TL.numL k := by
  unfold rbS
  rw [TL.tl_append, numS_tl]
  rfl
theorem rbS_inj {i j : Nat} (h : rbS i = rbS j) : i = j := by
  have := congrArg TL.tl h
  rw [rbS_tl, rbS_tl] at this
  exact TL.numL_inj (List.cons.inj this).2
theorem rbS_ok {k : Nat} (h : k < 10000000) : labelB (rbS k) = true := by
  have e : (rbS k).length = (TL.numL k).length + 1 := by rw [TL.len_tl, rbS_tl]; rfl
  have := TL.numL_len (n := k) (k := 7) (by decide) (by omega)
  refine labelB_iff.mpr ⟨by omega, by omega, fun c hc => ?_⟩
  rw [rbS_tl] at hc
  rcases List.mem_cons.mp hc with z | z
  · left; omega
  · have := TL.numL_digits k c z
    right; omega
def ledB : PRow → Bool
  | .ifr _ _ => true
  | .go _ => true
  | _ => false
def goalsL (rows : List PRow) : List Nat := (rows.filter ledB).map goalR
def labI (gs : List Nat) (k : Nat) : List Itm := if k ∈ gs then [.lab (rbS k)] else []
def bodyG (gs : List Nat) : List PRow → Nat → List Itm
  | [], k => labI gs k
  | r :: rs, k => labI gs k ++ (.row r (rbS (goalR r)) :: bodyG gs rs (k + 1))
theorem labI_lbs (gs : List Nat) (k : Nat) : ((labI gs k).map Itm.lbs).flatten = (([k] : List Nat).filter fun i => decide (i ∈ gs)).map rbS := by
  unfold labI
  by_cases q : k ∈ gs
  · rw [if_pos q, List.filter_cons_of_pos (by simpa using q)]; rfl
  · rw [if_neg q, List.filter_cons_of_neg (by simpa using q)]; rfl
theorem labI_seat (gs : List Nat) (k : Nat) (l : List Itm) : seatL (labI gs k ++ l) k = (([k] : List Nat).filter fun i => decide (i ∈ gs)).map (fun i => (rbS i, i)) ++ seatL l k := by
  unfold labI
  by_cases q : k ∈ gs
  · rw [if_pos q, List.filter_cons_of_pos (by simpa using q)]; rfl
  · rw [if_neg q, List.filter_cons_of_neg (by simpa using q)]; rfl
theorem bodyG_lbs (gs : List Nat) : ∀ (rs : List PRow) (k : Nat), ((bodyG gs rs k).map Itm.lbs).flatten = ((List.range' k (rs.length + 1)).filter fun i => decide (i ∈ gs)).map rbS
  | [], k => labI_lbs gs k
  | r :: rs, k => by
    rw [List.length_cons, List.range'_succ]
    show ((labI gs k ++ (Itm.row r (rbS (goalR r)) :: bodyG gs rs (k + 1))).map Itm.lbs).flatten = _
    rw [List.map_append, List.flatten_append, labI_lbs, List.map_cons, List.flatten_cons, bodyG_lbs gs rs (k + 1), show k :: List.range' (k + 1) (rs.length + 1) = [k] ++ List.range' (k + 1) (rs.length + 1) from rfl, List.filter_append, List.map_append]
    rfl
theorem bodyG_seat (gs : List Nat) : ∀ (rs : List PRow) (k : Nat), seatL (bodyG gs rs k) k = ((List.range' k (rs.length + 1)).filter fun i => decide (i ∈ gs)).map fun i => (rbS i, i)
  | [], k => by
    have := labI_seat gs k []
    rw [List.append_nil] at this
    show seatL (labI gs k) k = _
    rw [this]
    show _ ++ [] = _
    rw [List.append_nil]
    rfl
  | r :: rs, k => by
    rw [List.length_cons, List.range'_succ]
    show seatL (labI gs k ++ (Itm.row r (rbS (goalR r)) :: bodyG gs rs (k + 1))) k = _
    rw [labI_seat, show k :: List.range' (k + 1) (rs.length + 1) = [k] ++ List.range' (k + 1) (rs.length + 1) from rfl, List.filter_append, List.map_append]
    show _ ++ seatL (bodyG gs rs (k + 1)) (k + 1) = _
    rw [bodyG_seat gs rs (k + 1)]
theorem labI_row (gs : List Nat) (k : Nat) : (labI gs k).filter (fun it : Itm => decide (it.srt = ("row" : Str))) = [] := by
  unfold labI
  split
  · refine List.filter_eq_nil_iff.mpr fun it hit => ?_
    rw [List.mem_singleton.mp hit]
    show ¬ decide (("label" : Str) = "row") = true
    decide +kernel
  · rfl
theorem bodyG_rows (gs : List Nat) : ∀ (rs : List PRow) (k : Nat), ((bodyG gs rs k).filter fun it : Itm => decide (it.srt = ("row" : Str))).map Itm.fin = rs.map PRow.d
  | [], k => by show ((labI gs k).filter _).map _ = _; rw [labI_row]; rfl
  | r :: rs, k => by
    have h2 : decide ((Itm.row r (rbS (goalR r))).srt = ("row" : Str)) = true := by show decide (("row" : Str) = "row") = true; decide +kernel
    show ((labI gs k ++ (Itm.row r (rbS (goalR r)) :: bodyG gs rs (k + 1))).filter _).map Itm.fin = _
    rw [List.filter_append, labI_row, List.filter_cons_of_pos (p := fun it : Itm => decide (it.srt = ("row" : Str))) (a := Itm.row r (rbS (goalR r))) h2, List.nil_append, List.map_cons, bodyG_rows gs rs (k + 1)]
    rfl
theorem labI_mem {gs : List Nat} {k : Nat} {it : Itm} (h : it ∈ labI gs k) : it = .lab (rbS k) := by
  unfold labI at h
  split at h
  · exact List.mem_singleton.mp h
  · cases h
theorem bodyG_mem {gs : List Nat} : ∀ {rs : List PRow} {k : Nat} {it : Itm}, it ∈ bodyG gs rs k → (∃ i, i < k + rs.length + 1 ∧ it = .lab (rbS i)) ∨ ∃ r, r ∈ rs ∧ it = .row r (rbS (goalR r))
  | [], k, it, h => .inl ⟨k, by simp, labI_mem h⟩
  | r :: rs, k, it, h => by
    rcases List.mem_append.mp h with z | h
    · exact .inl ⟨k, by omega, labI_mem z⟩
    · rcases List.mem_cons.mp h with z | h
      · exact .inr ⟨r, List.mem_cons_self .., z⟩
      · rcases bodyG_mem h with ⟨i, hi, e⟩ | ⟨x, hx, e⟩
        · exact .inl ⟨i, by rw [List.length_cons]; omega, e⟩
        · exact .inr ⟨x, List.mem_cons_of_mem _ hx, e⟩
theorem labI_len {gs : List Nat} {k : Nat} : (labI gs k).length ≤ 1 := by
  unfold labI
  split <;> simp
theorem bodyG_len {gs : List Nat} : ∀ {rs : List PRow} {k : Nat}, (bodyG gs rs k).length ≤ 2 * rs.length + 1
  | [], k => labI_len
  | r :: rs, k => by
    show (labI gs k ++ (Itm.row r (rbS (goalR r)) :: bodyG gs rs (k + 1))).length ≤ _
    have h1 := labI_len (gs := gs) (k := k)
    have h2 := bodyG_len (gs := gs) (rs := rs) (k := k + 1)
    rw [List.length_append, List.length_cons, List.length_cons]
    omega
theorem agt_rbs : ∀ (L : List Nat) (n : Nat), n ∈ L → agt (L.map fun i => (rbS i, i)) (rbS n) = some n
  | [], n, h => nomatch h
  | k :: L, n, h => by
    rw [List.map_cons, agt_cons]
    by_cases q : k = n
    · rw [if_pos (by rw [q]), q]
    · rw [if_neg fun z => q (rbS_inj z)]
      refine agt_rbs L n ?_
      rcases List.mem_cons.mp h with z | z
      · exact absurd z.symm q
      · exact z
def n_its (cells shelves : List Trd) (rows : List PRow) : List Itm := (cells.map Itm.cell ++ shelves.map Itm.shelf) ++ bodyG (goalsL rows) rows 0
theorem goal_mem {rows : List PRow} {r : PRow} (h : r ∈ rows) (hl : ledB r = true) : goalR r ∈ goalsL rows := List.mem_map_of_mem (List.mem_filter.mpr ⟨h, hl⟩)
theorem n_body {cells shelves : List Trd} {rows : List PRow} (G : n_Pr cells shelves rows) : ∀ it ∈ bodyG (goalsL rows) rows 0, ItT it ∧ it.beg = true := fun it hit => by
  have nz := G.nz
  rcases bodyG_mem hit with ⟨i, hi, rfl⟩ | ⟨r, hm, rfl⟩
  · exact ⟨rbS_ok (by omega), rfl⟩
  · exact ⟨⟨(G.r r hm).1, rbS_ok (by have := leadsIn_goal (G.r r hm).2 (by omega); omega)⟩, rfl⟩
theorem n_all {cells shelves : List Trd} {rows : List PRow} (G : n_Pr cells shelves rows) : ∀ it ∈ n_its cells shelves rows, ItT it := fun it hit => by
  rcases List.mem_append.mp hit with z | z
  · rcases List.mem_append.mp z with z | z
    · obtain ⟨c, hcc, rfl⟩ := List.mem_map.mp z
      exact G.c c hcc
    · obtain ⟨c, hcc, rfl⟩ := List.mem_map.mp z
      exact G.s c hcc
  · exact (n_body G it z).1
theorem n_len {cells shelves : List Trd} {rows : List PRow} (G : n_Pr cells shelves rows) : (n_its cells shelves rows).length ≤ 200 := by
  have h1 := bodyG_len (gs := goalsL rows) (rs := rows) (k := 0)
  have nz := G.nz
  have cz := G.cz
  have sz := G.sz
  show ((cells.map Itm.cell ++ shelves.map Itm.shelf) ++ bodyG (goalsL rows) rows 0).length ≤ 200
  rw [List.length_append, List.length_append, List.length_map, List.length_map]
  omega
theorem n_read {cells shelves : List Trd} {rows : List PRow} (G : n_Pr cells shelves rows) : pureOf F_read [.str (textS (n_its cells shelves rows))] = some (n_PD cells shelves rows) := by
  have h1 := bodyG_len (gs := goalsL rows) (rs := rows) (k := 0)
  have nz := G.nz
  have cz := G.cz
  have sz := G.sz
  have n0 := G.n0
  refine read_all G.c G.s (n_body G) (fun e => ?_) G.nd ?_ (fun r s hm => ?_) (bodyG_rows _ rows 0) (by omega)
  · cases hr : rows with
    | nil => rw [hr] at n0; cases n0
    | cons r rs =>
      rw [hr] at e
      have : labI (goalsL (r :: rs)) 0 ++ (Itm.row r (rbS (goalR r)) :: bodyG (goalsL (r :: rs)) rs (0 + 1)) = [] := e
      simp at this
  · rw [bodyG_lbs]
    exact List.pairwise_map.mpr (List.Pairwise.imp (fun {i j} hij z => hij (rbS_inj z)) (List.Pairwise.filter _ List.nodup_range'))
  · rw [bodyG_seat]
    rcases bodyG_mem hm with ⟨i, hi, e⟩ | ⟨x, hx, e⟩
    · exact nomatch e
    · cases e
      have hl := leadsIn_goal (G.r r hx).2 (by omega)
      have ha : ledB r = true → agt (((List.range' 0 (rows.length + 1)).filter fun i => decide (i ∈ goalsL rows)).map fun i => (rbS i, i)) (rbS (goalR r)) = some (goalR r) := fun h =>
        agt_rbs _ _ (List.mem_filter.mpr ⟨List.mem_range'_1.mpr ⟨Nat.zero_le _, by omega⟩, decide_eq_true (goal_mem hx h)⟩)
      cases r <;> first | exact ha rfl | trivial
end Lk12

namespace Lk12
open PySem PySem.Spec PyProof.Rows L2 Dn
/-! ### lines written by parts -/
theorem s_assoc (a b c : Str) : a ++ b ++ c = a ++ (b ++ c) := by
  apply TL.ext_tl
  simp only [TL.tl_append, List.append_assoc]
theorem ln_cons (a b : Str) (l : List Str) : lnS (a :: b :: l) = a ++ " " ++ lnS (b :: l) := by
  unfold lnS
  rw [TL.join_eq, TL.join_eq]
  rfl
theorem ln_one (a : Str) : lnS [a] = a := by
  unfold lnS
  rw [TL.join_eq]
  rfl
theorem addS_of {f g : DE} {ρ : Ev} {S : Sto} {a b : Str} (h1 : f ρ S = some (.str a, S)) (h2 : g ρ S = some (.str b, S)) (hz : a.length + b.length ≤ 100000) : dBin pAdd f g ρ S = some (.str (a ++ b), S) := bin_of h1 h2 (by rw [v_addS, if_pos (size_ok (by omega))])
theorem s_len (a b : Str) : (a ++ b).length = a.length + b.length := by
  rw [TL.len_tl, TL.tl_append, List.length_append, ← TL.len_tl, ← TL.len_tl]
def wS : DV → Str
  | .str s => s
  | .int i => numS i
  | _ => ""
theorem atm_w {a : Atm} : wS a.d = atmS a := by cases a <;> rfl
/-- what str() takes -/
def Sd (d : DV) : Prop := (∃ s, d = .str s) ∨ ∃ i, d = .int i ∧ In40 i
theorem str_of {d : DV} {S : Sto} (h : Sd d) : pStr [d] S = some (.str (wS d), S) := by
  rcases h with ⟨s, rfl⟩ | ⟨i, rfl, hi⟩
  · rfl
  · show (if i.natAbs.log2 < 1920 then some (DV.str (toString i : String), S) else none) = _
    rw [if_pos]
    · rfl
    · obtain ⟨n, rfl, hn⟩ := nat40 hi
      by_cases q : n = 0
      · rw [q]; decide
      · have : (n : Int).natAbs = n := rfl
        rw [this]
        exact Nat.lt_trans ((Nat.log2_lt (k := 40) q).mpr (by omega)) (by decide)
theorem atm_sd {a : Atm} (h : AtT a) : Sd a.d := by
  cases a with
  | n i => exact .inr ⟨i, rfl, h⟩
  | x s => exact .inl ⟨s, rfl⟩
theorem in40n {n : Nat} (h : n < 1000) : In40 (n : Int) := ⟨by omega, by show (n : Int) < 1099511627776; omega⟩
theorem strA_of {f : DE} {ρ : Ev} {S : Sto} {a : Atm} (h : AtT a) (hf : f ρ S = some (a.d, S)) : dPrim pStr (aCons f aNil) ρ S = some (.str (atmS a), S) := by
  rw [← atm_w]
  exact prim_of (args1 hf) (str_of (atm_sd h))
theorem strN_of {f : DE} {ρ : Ev} {S : Sto} {i : Int} (h : In40 i) (hf : f ρ S = some (.int i, S)) : dPrim pStr (aCons f aNil) ρ S = some (.str (numS i), S) := prim_of (args1 hf) (str_of (.inr ⟨i, rfl, h⟩))
theorem join_of {f g : DE} {ρ : Ev} {S S1 S2 : Sto} {a : Str} {ys : List Str} (h1 : f ρ S = some (.str a, S1)) (h2 : g ρ S1 = some (.lst .own (ys.map .str), S2)) (hz : (ys.map (·.length)).sum + ys.length * a.length ≤ 16777216) : dM1 pJoin f g ρ S = some (.str (Txt.join a ys), S2) := by
  unfold dM1
  rw [h1]
  dsimp only
  rw [h2]
  dsimp only
  unfold pJoin
  rw [show itemsD S2 (.lst .own (ys.map DV.str)) = some (ys.map DV.str) from rfl]
  dsimp only
  rw [strsD_of]
  dsimp only
  rw [if_pos hz]
theorem join_loc {f g : DE} {ρ : Ev} {S S1 S2 : Sto} {a : Str} {ys : List Str} {n : Nat} (h1 : f ρ S = some (.str a, S1)) (h2 : g ρ S1 = some (.loc n, S2)) (hn : S2[n]? = some (.lst (ys.map .str))) (hz : (ys.map (·.length)).sum + ys.length * a.length ≤ 16777216) : dM1 pJoin f g ρ S = some (.str (Txt.join a ys), S2) := by
  unfold dM1
  rw [h1]
  dsimp only
  rw [h2]
  dsimp only
  unfold pJoin
  rw [show itemsD S2 (.loc n) = some (ys.map DV.str) by unfold itemsD; simp only [asL_loc hn]]
  dsimp only
  rw [strsD_of]
  dsimp only
  rw [if_pos hz]
theorem n_sum_le {m : Nat} : ∀ {l : List Nat}, (∀ x ∈ l, x ≤ m) → l.sum ≤ l.length * m
  | [], _ => Nat.zero_le _
  | a :: l, h => by
    have h1 := h a (List.mem_cons_self ..)
    have h2 := n_sum_le (l := l) fun x hx => h x (List.mem_cons_of_mem _ hx)
    rw [List.sum_cons, List.length_cons, Nat.succ_mul]
    omega
theorem w_sum {ws : List Str} (h : ∀ w ∈ ws, Sw w) (h5 : ws.length ≤ 5) : (ws.map (·.length)).sum + ws.length * (" " : Str).length ≤ 16777216 := by
  have e1 : (" " : Str).length = 1 := by decide +kernel
  have h6 := n_sum_le (m := 600) (l := ws.map (·.length)) fun x hx => by
    obtain ⟨w, hw, rfl⟩ := List.mem_map.mp hx
    exact (h w hw).l
  rw [List.length_map] at h6
  have h5 : ws.length * 600 ≤ 5 * 600 := Nat.mul_le_mul_right _ h5
  rw [e1]
  omega
/-- str() of each, in a list -/
theorem strs_lc {it : DI} {ρ : Ev} {S : Sto} {i : Nat} {ds : List DV} (hi : i < ρ.length) (h : it ρ S = some (ds, S)) (hs : ∀ d ∈ ds, Sd d) (hz : ds.length ≤ 100) : dLc it (gSet i) (dC (.bl true)) (dPrim pStr (aCons (dVar i) aNil)) [i] ρ S = some (.lst .own ((ds.map wS).map .str), S) := by
  refine dLc_of h ?_ (size_ok (by rw [List.length_map, List.length_map]; omega))
  have := lc_all (D := fun d : DV => d) (E := fun d => DV.str (wS d)) (g := gSet i) (c := dC (.bl true)) (fe := dPrim pStr (aCons (dVar i) aNil)) (ρ := dwipe ρ [i]) (S := S) (K := ds) fun d hd => ⟨(dwipe ρ [i]).set i (some d), rfl, rfl, prim_of (args1 (x := d) (by
    rw [Dn.v_var, List.getElem?_set_self (by show i < (ρ.set i none).length; rw [List.length_set]; exact hi)])) (str_of (hs d hd))⟩
  rw [List.map_id'] at this
  rw [List.map_map]
  exact this
theorem strs_lcM {it : DI} {ρ : Ev} {S : Sto} {i : Nat} {ds : List DV} (hi : i < ρ.length) (h : it ρ S = some (ds, S)) (hs : ∀ d ∈ ds, Sd d) (hz : ds.length ≤ 100) : dLcM it (gSet i) (dC (.bl true)) (dPrim pStr (aCons (dVar i) aNil)) [i] ρ S = some (.loc S.length, S ++ [.lst ((ds.map wS).map .str)]) := by
  refine dLcM_of h ?_ (size_ok (by rw [List.length_map, List.length_map]; omega))
  have := lc_all (D := fun d : DV => d) (E := fun d => DV.str (wS d)) (g := gSet i) (c := dC (.bl true)) (fe := dPrim pStr (aCons (dVar i) aNil)) (ρ := dwipe ρ [i]) (S := S) (K := ds) fun d hd => ⟨(dwipe ρ [i]).set i (some d), rfl, rfl, prim_of (args1 (x := d) (by
    rw [Dn.v_var, List.getElem?_set_self (by show i < (ρ.set i none).length; rw [List.length_set]; exact hi)])) (str_of (hs d hd))⟩
  rw [List.map_id'] at this
  rw [List.map_map]
  exact this
def rowL : PRow → List DV
  | .say a => [.str "say", a.d]
  | .copy x a => [.str "copy", .str x, a.d]
  | .op x s a b => [.str "op", .str x, .str s, a.d, b.d]
  | .load x c => [.str "load", .str x, .str c]
  | .store c a => [.str "store", .str c, a.d]
  | .take x s a => [.str "take", .str x, .str s, a.d]
  | .lay s a b => [.str "lay", .str s, a.d, b.d]
  | .hear x => [.str "hear", .str x]
  | .ifr a n => [.str "if", a.d, .int n]
  | .go n => [.str "go", .int n]
  | .endr a => [.str "end", a.d]
theorem rowL_d (r : PRow) : r.d = .tup (rowL r) := by cases r <;> rfl
theorem rowL_sd {r : PRow} (h : RowT r) (hg : goalR r < 1000) : ∀ d ∈ rowL r, Sd d := by
  have st : ∀ s : Str, Sd (.str s) := fun s => .inl ⟨s, rfl⟩
  cases r with
  | say a => exact List.forall_mem_cons.mpr ⟨st _, List.forall_mem_cons.mpr ⟨atm_sd h, fun _ z => nomatch z⟩⟩
  | endr a => exact List.forall_mem_cons.mpr ⟨st _, List.forall_mem_cons.mpr ⟨atm_sd h, fun _ z => nomatch z⟩⟩
  | hear x => exact List.forall_mem_cons.mpr ⟨st _, List.forall_mem_cons.mpr ⟨st _, fun _ z => nomatch z⟩⟩
  | go n => exact List.forall_mem_cons.mpr ⟨st _, List.forall_mem_cons.mpr ⟨.inr ⟨_, rfl, in40n hg⟩, fun _ z => nomatch z⟩⟩
  | ifr a n => exact List.forall_mem_cons.mpr ⟨st _, List.forall_mem_cons.mpr ⟨atm_sd h, List.forall_mem_cons.mpr ⟨.inr ⟨_, rfl, in40n hg⟩, fun _ z => nomatch z⟩⟩⟩
  | copy x a => exact List.forall_mem_cons.mpr ⟨st _, List.forall_mem_cons.mpr ⟨st _, List.forall_mem_cons.mpr ⟨atm_sd h.2, fun _ z => nomatch z⟩⟩⟩
  | load x c => exact List.forall_mem_cons.mpr ⟨st _, List.forall_mem_cons.mpr ⟨st _, List.forall_mem_cons.mpr ⟨st _, fun _ z => nomatch z⟩⟩⟩
  | store c a => exact List.forall_mem_cons.mpr ⟨st _, List.forall_mem_cons.mpr ⟨st _, List.forall_mem_cons.mpr ⟨atm_sd h.2, fun _ z => nomatch z⟩⟩⟩
  | take x s a => exact List.forall_mem_cons.mpr ⟨st _, List.forall_mem_cons.mpr ⟨st _, List.forall_mem_cons.mpr ⟨st _, List.forall_mem_cons.mpr ⟨atm_sd h.2.2, fun _ z => nomatch z⟩⟩⟩⟩
  | lay s a b => exact List.forall_mem_cons.mpr ⟨st _, List.forall_mem_cons.mpr ⟨st _, List.forall_mem_cons.mpr ⟨atm_sd h.2.1, List.forall_mem_cons.mpr ⟨atm_sd h.2.2, fun _ z => nomatch z⟩⟩⟩⟩
  | op x g a b => exact List.forall_mem_cons.mpr ⟨st _, List.forall_mem_cons.mpr ⟨st _, List.forall_mem_cons.mpr ⟨st _, List.forall_mem_cons.mpr ⟨atm_sd h.2.2.1, List.forall_mem_cons.mpr ⟨atm_sd h.2.2.2, fun _ z => nomatch z⟩⟩⟩⟩⟩
theorem rowL_len (r : PRow) : (rowL r).length ≤ 5 := by cases r <;> simp [rowL]
theorem atm_len {a : Atm} (h : AtT a) : (atmS a).length ≤ 600 := h.w.l
theorem name_len {s : Str} (h : nameB s = true) : s.length ≤ 600 := (Wd.name h).l
theorem num_len {i : Int} (h : In40 i) : (numS i).length ≤ 600 := (Wd.num h).l
/-- the program's own line -/
theorem line_of_eq {r : PRow} (h : RowT r) (hg : goalR r < 1000) : pureOf F_line_of [r.d] = some (.str (lnS (wordsR (rbS (goalR r)) r))) := by
  let ρ (x1 : Option DV) : Ev := [some r.d, x1]
  have hv : ∀ {S : Sto} {x1 : Option DV}, dVar 0 (ρ x1) S = some (.tup (rowL r), S) := fun {S x1} => by rw [← rowL_d]; rfl
  refine pureOf_of (S' := []) (run_rt rfl (?_ : b_line_of (ρ none) [] = _)) rfl
  have at_ : ∀ {d : DV} {i : Nat}, atD (rowL r) (i : Nat) = some d → dBin pIx (dVar 0) (dC (.int (i : Nat))) (ρ none) ([] : Sto) = some (d, []) := fun {d i} h2 => bin_of (y := .int (i : Nat)) hv rfl (Dn.ix_tup h2)
  have es : ∀ {k b : Str} {t : List DV}, rowL r = .str k :: t → dBin (pEq false) (dBin pIx (dVar 0) (dC (.int 0))) (dC (.str b)) (ρ none) ([] : Sto) = some (.bl (decide (k = b)), []) := fun {k b t} hd => eqS_of (at_ (i := 0) (by rw [hd]; exact atD_nat (k := 0) rfl)) rfl
  have one : ∀ {c : DE} {k b : Str} {t : List DV} {s n : DS} {o : Option Out}, rowL r = .str k :: t → decide (k = b) = false → n (ρ none) [] = o → dSeq (dIfS (dBin (pEq false) (dBin pIx (dVar 0) (dC (.int 0))) (dC (.str b))) s dNext) n (ρ none) [] = o := fun {c k b t s n o} hd h1 h2 => (seq_nx ((ifS_f ((es hd).trans (by rw [h1]))).trans rfl)).trans h2
  have e3 : (" = " : Str) = " " ++ ("=" ++ " ") := by decide +kernel
  have l3 : (" = " : Str).length = 3 := by decide +kernel
  have l1 : (" " : Str).length = 1 := by decide +kernel
  have words := wordsR_sw h (rbS_ok (k := goalR r) (by omega))
  have oth : ∀ {k : Str} {t : List DV}, rowL r = .str k :: t → decide (k = "copy") = false → decide (k = "op") = false → decide (k = "go") = false → decide (k = "if") = false → (rowL r).map wS = wordsR (rbS (goalR r)) r → b_line_of (ρ none) [] = some (.rt (.str (lnS (wordsR (rbS (goalR r)) r))) []) := fun {k t} hd h1 h2 h3 h4 ew => by
    have c3 := or_b (es (b := "go") hd) (es (b := "if") hd)
    rw [h3, h4] at c3
    have lc := strs_lc (i := 1) (ρ := ρ none) (S := []) (show 1 < 2 by decide) (iSeqT_of hv) (rowL_sd h hg) (by have := rowL_len r; omega)
    rw [ew] at lc
    refine one (c := dVar 0) hd h1 (one (c := dVar 0) hd h2 ((seq_nx ((ifS_f c3).trans rfl)).trans (ret_of (join_of rfl lc (w_sum words ?_)))))
    rw [← ew, List.length_map]
    exact rowL_len r
  cases r with
  | say a => exact oth rfl (by decide +kernel) (by decide +kernel) (by decide +kernel) (by decide +kernel) (by simp only [rowL, wordsR, List.map_cons, List.map_nil, atm_w]; rfl)
  | endr a => exact oth rfl (by decide +kernel) (by decide +kernel) (by decide +kernel) (by decide +kernel) (by simp only [rowL, wordsR, List.map_cons, List.map_nil, atm_w]; rfl)
  | hear x => exact oth rfl (by decide +kernel) (by decide +kernel) (by decide +kernel) (by decide +kernel) rfl
  | load x c => exact oth rfl (by decide +kernel) (by decide +kernel) (by decide +kernel) (by decide +kernel) rfl
  | store c a => exact oth rfl (by decide +kernel) (by decide +kernel) (by decide +kernel) (by decide +kernel) (by simp only [rowL, wordsR, List.map_cons, List.map_nil, atm_w]; rfl)
  | take x s a => exact oth rfl (by decide +kernel) (by decide +kernel) (by decide +kernel) (by decide +kernel) (by simp only [rowL, wordsR, List.map_cons, List.map_nil, atm_w]; rfl)
  | lay s a b => exact oth rfl (by decide +kernel) (by decide +kernel) (by decide +kernel) (by decide +kernel) (by simp only [rowL, wordsR, List.map_cons, List.map_nil, atm_w]; rfl)
  | copy x a =>
    have lx := name_len h.1
    have la := atm_len h.2
    have e := addS_of (addS_of (at_ (i := 1) rfl) (g := dC (.str " = ")) (b := " = ") rfl (by omega)) (strA_of h.2 (at_ (i := 2) rfl)) (by rw [s_len]; omega)
    have ew : x ++ " = " ++ atmS a = lnS (wordsR (rbS (goalR (.copy x a))) (.copy x a)) := by
      show _ = lnS [x, "=", atmS a]
      rw [ln_cons, ln_cons, ln_one, e3]
      simp only [s_assoc]
    rw [ew] at e
    exact seq_rt ((ifS_t ((es (k := "copy") rfl).trans (by rw [decide_eq_true rfl]))).trans (ret_of e))
  | op x g a b =>
    have lx := name_len h.1
    have lg := (sw_sign h.2.1).l
    have la := atm_len h.2.2.1
    have lb := atm_len h.2.2.2
    have e := addS_of (addS_of (addS_of (addS_of (addS_of (addS_of (at_ (i := 1) rfl) (g := dC (.str " = ")) (b := " = ") rfl (by omega)) (strA_of h.2.2.1 (at_ (i := 3) rfl)) (by simp only [s_len]; omega)) (g := dC (.str " ")) (b := " ") rfl (by simp only [s_len]; omega)) (at_ (i := 2) rfl) (by simp only [s_len]; omega)) (g := dC (.str " ")) (b := " ") rfl (by simp only [s_len]; omega)) (strA_of h.2.2.2 (at_ (i := 4) rfl)) (by simp only [s_len]; omega)
    have ew : x ++ " = " ++ atmS a ++ " " ++ g ++ " " ++ atmS b = lnS (wordsR (rbS (goalR (.op x g a b))) (.op x g a b)) := by
      show _ = lnS [x, "=", atmS a, g, atmS b]
      rw [ln_cons, ln_cons, ln_cons, ln_cons, ln_one, e3]
      simp only [s_assoc]
    rw [ew] at e
    exact one (c := dVar 0) (k := "op") rfl (by decide +kernel) (seq_rt ((ifS_t ((es (k := "op") rfl).trans (by rw [decide_eq_true rfl]))).trans (ret_of e)))
  | go n =>
    have hg : n < 1000 := hg
    have c3 := or_t (g := dBin (pEq false) (dBin pIx (dVar 0) (dC (.int 0))) (dC (.str "if"))) ((es (k := "go") (b := "go") rfl).trans (by rw [decide_eq_true rfl]))
    have sl : dSl pSl (dVar 0) oNone (oSome (dUn pNeg (dC (.int 1)))) (ρ none) ([] : Sto) = some (.tup [.str "go"], []) := rfl
    have lc := strs_lc (i := 1) (ρ := ρ none) (S := []) (show 1 < 2 by decide) (iSeqT_of sl) (fun d hd => .inl ⟨"go", List.mem_singleton.mp hd⟩) (by simp)
    have jn := join_of (f := dC (.str " ")) (a := " ") (ys := ["go"]) rfl lc (by decide +kernel)
    have lst : dBin pIx (dVar 0) (dUn pNeg (dC (.int 1))) (ρ none) ([] : Sto) = some (.int (n : Nat), []) := bin_of (x := .tup [.str "go", .int (n : Nat)]) (y := .int (-1)) rfl rfl (Dn.ix_tup rfl)
    have ln : (numS (n : Int)).length ≤ 600 := num_len (in40n hg)
    have e := addS_of (addS_of jn (g := dC (.str " r")) (b := " r") rfl (by decide +kernel)) (strN_of (in40n hg) lst) (by
      rw [show (Txt.join " " ["go"] ++ " r" : Str).length = 4 by decide +kernel]; omega)
    have ew : Txt.join " " ["go"] ++ " r" ++ numS (n : Int) = lnS (wordsR (rbS (goalR (.go n))) (.go n)) := by
      show _ = lnS ["go", rbS n]
      rw [ln_cons, ln_one, show Txt.join " " ["go"] = ("go" : Str) by decide +kernel, show (" r" : Str) = " " ++ "r" by decide +kernel]
      unfold rbS
      simp only [s_assoc]
    rw [ew] at e
    exact one (c := dVar 0) (k := "go") rfl (by decide +kernel) (one (c := dVar 0) (k := "go") rfl (by decide +kernel) (seq_rt ((ifS_t c3).trans (ret_of e))))
  | ifr a n =>
    have hg : n < 1000 := hg
    have ha : AtT a := h
    have la := atm_len ha
    have c3 := or_b (es (k := "if") (b := "go") rfl) (es (k := "if") (b := "if") rfl)
    rw [show (decide (("if" : Str) = "go") || decide (("if" : Str) = "if")) = true by decide +kernel] at c3
    have sl : dSl pSl (dVar 0) oNone (oSome (dUn pNeg (dC (.int 1)))) (ρ none) ([] : Sto) = some (.tup [.str "if", a.d], []) := rfl
    have lc := strs_lc (i := 1) (ρ := ρ none) (S := []) (show 1 < 2 by decide) (iSeqT_of sl) (List.forall_mem_cons.mpr ⟨.inl ⟨"if", rfl⟩, List.forall_mem_cons.mpr ⟨atm_sd ha, fun _ z => nomatch z⟩⟩) (by simp)
    rw [show [DV.str "if", a.d].map wS = (["if", atmS a] : List Str) by simp only [List.map_cons, List.map_nil, atm_w]; rfl] at lc
    have l2 : ("if" : Str).length = 2 := by decide +kernel
    have l5 : (" r" : Str).length = 2 := by decide +kernel
    have jn := join_of (f := dC (.str " ")) (a := " ") (ys := ["if", atmS a]) rfl lc (by simp [l2, l1]; omega)
    have jl : Txt.join " " ["if", atmS a] = "if" ++ " " ++ atmS a := by
      have := ln_cons "if" (atmS a) []
      rw [ln_one] at this
      exact this
    rw [jl] at jn
    have lst : dBin pIx (dVar 0) (dUn pNeg (dC (.int 1))) (ρ none) ([] : Sto) = some (.int (n : Nat), []) := bin_of (x := .tup [.str "if", a.d, .int (n : Nat)]) (y := .int (-1)) rfl rfl (Dn.ix_tup rfl)
    have ln : (numS (n : Int)).length ≤ 600 := num_len (in40n hg)
    have e := addS_of (addS_of jn (g := dC (.str " r")) (b := " r") rfl (by simp only [s_len, l2, l1, l5]; omega)) (strN_of (in40n hg) lst) (by simp only [s_len, l2, l1, l5]; omega)
    have ew : "if" ++ " " ++ atmS a ++ " r" ++ numS (n : Int) = lnS (wordsR (rbS (goalR (.ifr a n))) (.ifr a n)) := by
      show _ = lnS ["if", atmS a, rbS n]
      rw [ln_cons, ln_cons, ln_one, show (" r" : Str) = " " ++ "r" by decide +kernel]
      unfold rbS
      simp only [s_assoc]
    rw [ew] at e
    exact one (c := dVar 0) (k := "if") rfl (by decide +kernel) (one (c := dVar 0) (k := "if") rfl (by decide +kernel) (seq_rt ((ifS_t c3).trans (ret_of e))))
end Lk12

namespace Lk12
open PySem PySem.Spec PyProof.Rows L2 Dn
/-! ### the law's line -/
theorem law_line_eq {r : PRow} (h : RowT r) (hg : goalR r < 1000) : pureOf F_law_line [r.d] = some (.str (lnS (wordsR (rbS (goalR r)) r))) := by
  let ρ (x1 : Option DV) : Ev := [some r.d, x1, none]
  have hv : ∀ {S : Sto} {x1 : Option DV}, dVar 0 (ρ x1) S = some (.tup (rowL r), S) := fun {S x1} => by rw [← rowL_d]; rfl
  have at_ : ∀ {d : DV} {i : Nat} {S : Sto} {x1 : Option DV}, atD (rowL r) (i : Nat) = some d → dBin pIx (dVar 0) (dC (.int (i : Nat))) (ρ x1) S = some (d, S) := fun {d i S x1} h2 => bin_of (y := .int (i : Nat)) hv rfl (Dn.ix_tup h2)
  have es : ∀ {k b : Str} {t : List DV} {S : Sto} {x1 : Option DV}, rowL r = .str k :: t → dBin (pEq false) (dBin pIx (dVar 0) (dC (.int 0))) (dC (.str b)) (ρ x1) S = some (.bl (decide (k = b)), S) := fun {k b t S x1} hd => eqS_of (at_ (i := 0) (by rw [hd]; exact atD_nat (k := 0) rfl)) rfl
  let W0 : List DV := ((rowL r).map wS).map .str
  let S1 : Sto := [.lst W0]
  have s1 : dSet 1 (dLcM (iSeq (dVar 0)) (gSet 2) (dC (.bl true)) (dPrim pStr (aCons (dVar 2) aNil)) [2]) (ρ none) ([] : Sto) = some (.nx (ρ (some (.loc 0))) S1) :=
    set_of (strs_lcM (i := 2) (ρ := ρ none) (S := []) (show 2 < 3 by decide) (iSeqT_of hv) (rowL_sd h hg) (by have := rowL_len r; omega))
  have words := wordsR_sw h (rbS_ok (k := goalR r) (by omega))
  have wl : (wordsR (rbS (goalR r)) r).length ≤ 5 := by cases r <;> simp [wordsR]
  have fin : ∀ {S : Sto} {n : Nat}, S[n]? = some (.lst ((wordsR (rbS (goalR r)) r).map .str)) → dRet (dM1 pJoin (dC (.str " ")) (dVar 1)) (ρ (some (.loc n))) S = some (.rt (.str (lnS (wordsR (rbS (goalR r)) r))) S) := fun {S n} hn =>
    ret_of (join_loc rfl rfl hn (w_sum words wl))
  have no : ∀ {k b : Str} {t : List DV} {s : DS} {S : Sto} {x1 : Option DV}, rowL r = .str k :: t → decide (k = b) = false → dIfS (dBin (pEq false) (dBin pIx (dVar 0) (dC (.int 0))) (dC (.str b))) s dNext (ρ x1) S = some (.nx (ρ x1) S) := fun {k b t s S x1} hd h1 => (ifS_f ((es hd).trans (by rw [h1]))).trans rfl
  have no2 : ∀ {k : Str} {t : List DV} {s : DS} {S : Sto} {x1 : Option DV}, rowL r = .str k :: t → decide (k = "if") = false → decide (k = "go") = false → dIfS (dOr (dBin (pEq false) (dBin pIx (dVar 0) (dC (.int 0))) (dC (.str "if"))) (dBin (pEq false) (dBin pIx (dVar 0) (dC (.int 0))) (dC (.str "go")))) s dNext (ρ x1) S = some (.nx (ρ x1) S) := fun {k t s S x1} hd h1 h2 => by
    have c := or_b (es (b := "if") (S := S) (x1 := x1) hd) (es (b := "go") hd)
    rw [h1, h2] at c
    exact (ifS_f c).trans rfl
  have oth : ∀ {k : Str} {t : List DV}, rowL r = .str k :: t → decide (k = "copy") = false → decide (k = "op") = false → decide (k = "if") = false → decide (k = "go") = false → (rowL r).map wS = wordsR (rbS (goalR r)) r → pureOf F_law_line [r.d] = some (.str (lnS (wordsR (rbS (goalR r)) r))) := fun {k t} hd h1 h2 h3 h4 ew => by
    refine pureOf_of (S' := S1) (run_rt rfl ?_) rfl
    exact (seq_nx s1).trans ((seq_nx (no hd h1)).trans ((seq_nx (no hd h2)).trans ((seq_nx (no2 hd h3 h4)).trans (fin (by rw [← ew]; rfl)))))
  cases r with
  | say a => exact oth rfl (by decide +kernel) (by decide +kernel) (by decide +kernel) (by decide +kernel) (by simp only [rowL, wordsR, List.map_cons, List.map_nil, atm_w]; rfl)
  | endr a => exact oth rfl (by decide +kernel) (by decide +kernel) (by decide +kernel) (by decide +kernel) (by simp only [rowL, wordsR, List.map_cons, List.map_nil, atm_w]; rfl)
  | hear x => exact oth rfl (by decide +kernel) (by decide +kernel) (by decide +kernel) (by decide +kernel) rfl
  | load x c => exact oth rfl (by decide +kernel) (by decide +kernel) (by decide +kernel) (by decide +kernel) rfl
  | store c a => exact oth rfl (by decide +kernel) (by decide +kernel) (by decide +kernel) (by decide +kernel) (by simp only [rowL, wordsR, List.map_cons, List.map_nil, atm_w]; rfl)
  | take x s a => exact oth rfl (by decide +kernel) (by decide +kernel) (by decide +kernel) (by decide +kernel) (by simp only [rowL, wordsR, List.map_cons, List.map_nil, atm_w]; rfl)
  | lay s a b => exact oth rfl (by decide +kernel) (by decide +kernel) (by decide +kernel) (by decide +kernel) (by simp only [rowL, wordsR, List.map_cons, List.map_nil, atm_w]; rfl)
  | copy x a =>
    let S2 : Sto := S1 ++ [.lst [.str x, .str "=", .str (atmS a)]]
    have s2 : dIfS (dBin (pEq false) (dBin pIx (dVar 0) (dC (.int 0))) (dC (.str "copy"))) (dSet 1 (dPrim pLstM (aCons (dBin pIx (dVar 0) (dC (.int 1))) (aCons (dC (.str "=")) (aCons (dPrim pStr (aCons (dBin pIx (dVar 0) (dC (.int 2))) aNil)) aNil))))) dNext (ρ (some (.loc 0))) S1 = some (.nx (ρ (some (.loc 1))) S2) :=
      (ifS_t ((es (k := "copy") rfl).trans (by rw [decide_eq_true rfl]))).trans (set_of (prim_of (args3 (at_ (i := 1) rfl) rfl (strA_of h.2 (at_ (i := 2) rfl))) rfl))
    refine pureOf_of (S' := S2) (run_rt rfl ?_) rfl
    exact (seq_nx s1).trans ((seq_nx s2).trans ((seq_nx (no (k := "copy") rfl (by decide +kernel))).trans ((seq_nx (no2 (k := "copy") rfl (by decide +kernel) (by decide +kernel))).trans (fin rfl))))
  | op x g a b =>
    let S2 : Sto := S1 ++ [.lst [.str x, .str "=", .str (atmS a), .str g, .str (atmS b)]]
    have s2 : dIfS (dBin (pEq false) (dBin pIx (dVar 0) (dC (.int 0))) (dC (.str "op"))) (dSet 1 (dPrim pLstM (aCons (dBin pIx (dVar 0) (dC (.int 1))) (aCons (dC (.str "=")) (aCons (dPrim pStr (aCons (dBin pIx (dVar 0) (dC (.int 3))) aNil)) (aCons (dBin pIx (dVar 0) (dC (.int 2))) (aCons (dPrim pStr (aCons (dBin pIx (dVar 0) (dC (.int 4))) aNil)) aNil))))))) dNext (ρ (some (.loc 0))) S1 = some (.nx (ρ (some (.loc 1))) S2) :=
      (ifS_t ((es (k := "op") rfl).trans (by rw [decide_eq_true rfl]))).trans (set_of (prim_of (argsC (at_ (i := 1) rfl) (argsC rfl (argsC (strA_of h.2.2.1 (at_ (i := 3) rfl)) (args2 (at_ (i := 2) rfl) (strA_of h.2.2.2 (at_ (i := 4) rfl)))))) rfl))
    refine pureOf_of (S' := S2) (run_rt rfl ?_) rfl
    exact (seq_nx s1).trans ((seq_nx (no (k := "op") rfl (by decide +kernel))).trans ((seq_nx s2).trans ((seq_nx (no2 (k := "op") rfl (by decide +kernel) (by decide +kernel))).trans (fin rfl))))
  | go n =>
    have hg : n < 1000 := hg
    have ln : (numS (n : Int)).length ≤ 600 := num_len (in40n hg)
    have c4 : dOr (dBin (pEq false) (dBin pIx (dVar 0) (dC (.int 0))) (dC (.str "if"))) (dBin (pEq false) (dBin pIx (dVar 0) (dC (.int 0))) (dC (.str "go"))) (ρ (some (.loc 0))) S1 = some (.bl true, S1) := by
      have c := or_b (es (k := "go") (b := "if") (S := S1) (x1 := some (.loc 0)) rfl) (es (k := "go") (b := "go") rfl)
      rw [show (decide (("go" : Str) = "if") || decide (("go" : Str) = "go")) = true by decide +kernel] at c
      exact c
    let S2 : Sto := [.lst [.str "go", .str (rbS n)]]
    have lst : dBin pIx (dVar 1) (dUn pNeg (dC (.int 1))) (ρ (some (.loc 0))) S1 = some (.str (numS n), S1) := bin_of (x := .loc 0) (y := .int (-1)) rfl rfl (ix_loc (ds := W0) rfl rfl)
    have ad := addS_of (f := dC (.str "r")) (a := "r") rfl lst (by rw [show ("r" : Str).length = 1 by decide +kernel]; omega)
    have s4 := (ifS_t (t := dNext) c4).trans (sub_of (f := dBin pAdd (dC (.str "r")) (dBin pIx (dVar 1) (dUn pNeg (dC (.int 1))))) (g := dVar 1) (h := dUn pNeg (dC (.int 1))) (x := .loc 0) (k := .int (-1)) (S' := S2) ad rfl rfl ((setI_lst (n := 0) (S := S1) (j := 1) rfl rfl).trans rfl))
    refine pureOf_of (S' := S2) (run_rt rfl ?_) rfl
    exact (seq_nx s1).trans ((seq_nx (no (k := "go") rfl (by decide +kernel))).trans ((seq_nx (no (k := "go") rfl (by decide +kernel))).trans ((seq_nx s4).trans (fin rfl))))
  | ifr a n =>
    have hg : n < 1000 := hg
    have ha : AtT a := h
    have ln : (numS (n : Int)).length ≤ 600 := num_len (in40n hg)
    have c4 : dOr (dBin (pEq false) (dBin pIx (dVar 0) (dC (.int 0))) (dC (.str "if"))) (dBin (pEq false) (dBin pIx (dVar 0) (dC (.int 0))) (dC (.str "go"))) (ρ (some (.loc 0))) S1 = some (.bl true, S1) := or_t ((es (k := "if") (b := "if") rfl).trans (by rw [decide_eq_true rfl]))
    let S2 : Sto := [.lst [.str "if", .str (wS a.d), .str (rbS n)]]
    have lst : dBin pIx (dVar 1) (dUn pNeg (dC (.int 1))) (ρ (some (.loc 0))) S1 = some (.str (numS n), S1) := bin_of (x := .loc 0) (y := .int (-1)) rfl rfl (ix_loc (ds := W0) rfl rfl)
    have ad := addS_of (f := dC (.str "r")) (a := "r") rfl lst (by rw [show ("r" : Str).length = 1 by decide +kernel]; omega)
    have s4 := (ifS_t (t := dNext) c4).trans (sub_of (f := dBin pAdd (dC (.str "r")) (dBin pIx (dVar 1) (dUn pNeg (dC (.int 1))))) (g := dVar 1) (h := dUn pNeg (dC (.int 1))) (x := .loc 0) (k := .int (-1)) (S' := S2) ad rfl rfl ((setI_lst (n := 0) (S := S1) (j := 2) rfl rfl).trans rfl))
    refine pureOf_of (S' := S2) (run_rt rfl ?_) rfl
    exact (seq_nx s1).trans ((seq_nx (no (k := "if") rfl (by decide +kernel))).trans ((seq_nx (no (k := "if") rfl (by decide +kernel))).trans ((seq_nx s4).trans (fin (by
      show some (Cell.lst [.str "if", .str (wS a.d), .str (rbS n)]) = _
      rw [atm_w]; rfl)))))
/-! ### lines of cells and shelves, labels -/
abbrev lineD (it : Itm) : DV := .str (lnS it.ws)
theorem head_line {fa fn fs : DE} {ρ : Ev} {S : Sto} {sh tw : Bool} {x : Str} {i : Int} (hx : nameB x = true) (hi : In40 i) (h0 : fa ρ S = some (.str (headS sh tw), S)) (h1 : fn ρ S = some (.str x, S)) (h2 : fs ρ S = some (.int i, S)) :
    dBin pAdd (dBin pAdd (dBin pAdd (dBin pAdd fa (dC (.str " "))) fn) (dC (.str " "))) (dPrim pStr (aCons fs aNil)) ρ S = some (.str (lnS [headS sh tw, x, numS i]), S) := by
  have l1 : (" " : Str).length = 1 := by decide +kernel
  have lh : (headS sh tw).length ≤ 600 := by cases sh <;> cases tw <;> decide +kernel
  have lx := name_len hx
  have li := num_len hi
  have e := addS_of (addS_of (addS_of (addS_of h0 (g := dC (.str " ")) (b := " ") rfl (by omega)) h1 (by simp only [s_len, l1]; omega)) (g := dC (.str " ")) (b := " ") rfl (by simp only [s_len, l1]; omega)) (strN_of hi h2) (by simp only [s_len, l1]; omega)
  rw [show headS sh tw ++ " " ++ x ++ " " ++ numS i = lnS [headS sh tw, x, numS i] by
    rw [ln_cons, ln_cons, ln_one]
    simp only [s_assoc]] at e
  exact e
theorem hd_ix {a b : Str} {tw : Bool} {f g : DE} {ρ : Ev} {S : Sto} (hf : f ρ S = some (.lst .own [.str a, .str b], S)) (hg : g ρ S = some (.bl tw, S)) : dBin pIx f (dPrim pInt (aCons g aNil)) ρ S = some (.str (if tw then b else a), S) := by
  refine bin_of hf (prim_of (args1 hg) (v_intB)) ?_
  cases tw with
  | true => exact Dn.ix_seq (atD_nat (k := 1) rfl)
  | false => exact Dn.ix_seq (atD_nat (k := 0) rfl)
theorem hd_cell {f g : DE} {ρ : Ev} {S : Sto} {tw : Bool} (hf : f ρ S = some (.lst .own [.str "cell", .str "twin"], S)) (hg : g ρ S = some (.bl tw, S)) : dBin pIx f (dPrim pInt (aCons g aNil)) ρ S = some (.str (headS false tw), S) := by
  rw [hd_ix hf hg]; cases tw <;> rfl
theorem hd_shelf {f g : DE} {ρ : Ev} {S : Sto} {tw : Bool} (hf : f ρ S = some (.lst .own [.str "shelf", .str "twins"], S)) (hg : g ρ S = some (.bl tw, S)) : dBin pIx f (dPrim pInt (aCons g aNil)) ρ S = some (.str (headS true tw), S) := by
  rw [hd_ix hf hg]; cases tw <;> rfl
theorem lab_line {f : DE} {ρ : Ev} {S : Sto} {k : Nat} (hk : k < 1000) (h : f ρ S = some (.int (k : Nat), S)) : dBin pAdd (dC (.str "at r")) (dPrim pStr (aCons f aNil)) ρ S = some (lineD (.lab (rbS k)), S) := by
  have ln : (numS (k : Int)).length ≤ 600 := num_len (in40n hk)
  have e := addS_of (f := dC (.str "at r")) (a := "at r") rfl (strN_of (in40n hk) h) (by rw [show ("at r" : Str).length = 4 by decide +kernel]; omega)
  refine e.trans ?_
  show some (DV.str _, S) = some (DV.str (lnS ["at", rbS k]), S)
  rw [ln_cons, ln_one, show ("at r" : Str) = "at" ++ " " ++ "r" by decide +kernel]
  unfold rbS
  simp only [s_assoc]
abbrev gD (gs : List Nat) : DV := .lst .own (gs.map fun (n : Nat) => DV.int n)
theorem in_gs {gs : List Nat} {k : Nat} {S : Sto} : pIn false (.int (k : Nat)) (gD gs) S = some (.bl (decide (k ∈ gs)), S) := by
  have hf : (gs.map fun (n : Nat) => DV.int n).all flD = true := by
    rw [List.all_eq_true]
    intro d hd
    obtain ⟨s, _, rfl⟩ := List.mem_map.mp hd
    rfl
  have hi : ∀ l : List Nat, inD (.int (k : Nat)) (l.map fun (n : Nat) => DV.int n) = decide (k ∈ l) := fun l => by
    induction l with
    | nil => rfl
    | cons a l ih =>
      unfold inD at *
      rw [List.map_cons, List.any_cons, ih]
      show (((a : Int) == (k : Int)) || decide (k ∈ l)) = _
      by_cases q : a = k
      · rw [q]; simp
      · have q' : ¬ k = a := fun z => q z.symm
        have q2 : ((a : Int) == (k : Int)) = false := by rw [beq_eq_false_iff_ne]; omega
        simp [q2, q']
  show (if flD (.int (k : Nat)) = true ∧ (gs.map fun (n : Nat) => DV.int n).all flD = true then some (DV.bl (if false = true then !inD (.int (k : Nat)) (gs.map fun (n : Nat) => DV.int n) else inD (.int (k : Nat)) (gs.map fun (n : Nat) => DV.int n)), S) else _) = _
  rw [if_pos ⟨rfl, hf⟩, hi]
  rfl
theorem goals_lc {it : DI} {ρ : Ev} {S : Sto} {i : Nat} {rows : List PRow} {k1 k2 : Str} (hk : (k1 = "go" ∧ k2 = "if") ∨ (k1 = "if" ∧ k2 = "go")) (hi : i < ρ.length) (h : it ρ S = some (rows.map PRow.d, S)) (hz : rows.length ≤ 100) :
    dLc it (gSet i) (dOr (dBin (pEq false) (dBin pIx (dVar i) (dC (.int 0))) (dC (.str k1))) (dBin (pEq false) (dBin pIx (dVar i) (dC (.int 0))) (dC (.str k2)))) (dBin pIx (dVar i) (dUn pNeg (dC (.int 1)))) [i] ρ S = some (gD (goalsL rows), S) := by
  refine (dLc_of h (lc_filt (D := PRow.d) (E := fun r => DV.int (goalR r : Nat)) (p := ledB) (K := rows) fun r hr => ?_) (size_ok (by have := List.length_filter_le ledB rows; rw [List.length_map]; omega))).trans ?_
  · let ρ1 := (dwipe ρ [i]).set i (some r.d)
    have v : ∀ {S : Sto}, dVar i ρ1 S = some (.tup (rowL r), S) := fun {S} => by
      rw [← rowL_d, Dn.v_var, List.getElem?_set_self (by show i < (ρ.set i none).length; rw [List.length_set]; exact hi)]
    have e0 : ∀ {k b : Str} {t : List DV}, rowL r = .str k :: t → dBin (pEq false) (dBin pIx (dVar i) (dC (.int 0))) (dC (.str b)) ρ1 S = some (.bl (decide (k = b)), S) := fun {k b t} hd => eqS_of (bin_of (y := .int 0) v rfl (Dn.ix_tup (by rw [hd]; exact atD_nat (k := 0) rfl))) rfl
    have c0 : ∀ {k : Str} {t : List DV}, rowL r = .str k :: t → dOr (dBin (pEq false) (dBin pIx (dVar i) (dC (.int 0))) (dC (.str k1))) (dBin (pEq false) (dBin pIx (dVar i) (dC (.int 0))) (dC (.str k2))) ρ1 S = some (.bl (decide (k = "go") || decide (k = "if")), S) := fun {k t} hd => by
      have c := or_b (e0 (b := k1) hd) (e0 (b := k2) hd)
      rcases hk with ⟨rfl, rfl⟩ | ⟨rfl, rfl⟩
      · exact c
      · rw [c, Bool.or_comm]
    have ng : ∀ {k : Str}, decide (k = "go") = false → decide (k = "if") = false → (decide (k = "go") || decide (k = "if")) = false := fun {k} a b => by rw [a, b]; rfl
    refine ⟨ρ1, rfl, ?_, fun hp => ?_⟩
    · cases r with
      | go n => exact (c0 rfl).trans (by rw [show (decide (("go" : Str) = "go") || decide (("go" : Str) = "if")) = true by decide +kernel]; rfl)
      | ifr a n => exact (c0 rfl).trans (by rw [show (decide (("if" : Str) = "go") || decide (("if" : Str) = "if")) = true by decide +kernel]; rfl)
      | say a => exact (c0 rfl).trans (by rw [ng (by decide +kernel) (by decide +kernel)]; rfl)
      | endr a => exact (c0 rfl).trans (by rw [ng (by decide +kernel) (by decide +kernel)]; rfl)
      | hear a => exact (c0 rfl).trans (by rw [ng (by decide +kernel) (by decide +kernel)]; rfl)
      | load a b => exact (c0 rfl).trans (by rw [ng (by decide +kernel) (by decide +kernel)]; rfl)
      | store a b => exact (c0 rfl).trans (by rw [ng (by decide +kernel) (by decide +kernel)]; rfl)
      | copy a b => exact (c0 rfl).trans (by rw [ng (by decide +kernel) (by decide +kernel)]; rfl)
      | take a b c => exact (c0 rfl).trans (by rw [ng (by decide +kernel) (by decide +kernel)]; rfl)
      | lay a b c => exact (c0 rfl).trans (by rw [ng (by decide +kernel) (by decide +kernel)]; rfl)
      | op a b c d => exact (c0 rfl).trans (by rw [ng (by decide +kernel) (by decide +kernel)]; rfl)
    · cases r with
      | go n => exact bin_of (y := .int (-1)) v rfl (Dn.ix_tup rfl)
      | ifr a n => exact bin_of (y := .int (-1)) v rfl (Dn.ix_tup rfl)
      | _ => exact absurd hp Bool.false_ne_true
  · show _ = some (DV.lst .own (((rows.filter ledB).map goalR).map fun (n : Nat) => DV.int n), S)
    rw [List.map_map]; rfl
end Lk12

namespace Lk12
open PySem PySem.Spec PyProof.Rows L2 Dn
/-! ### the texts whole -/
def bodyH (gs : List Nat) : List PRow → Nat → List Itm
  | [], _ => []
  | r :: rs, k => labI gs k ++ (.row r (rbS (goalR r)) :: bodyH gs rs (k + 1))
theorem bodyH_G (gs : List Nat) : ∀ (rs : List PRow) (k : Nat), bodyG gs rs k = bodyH gs rs k ++ labI gs (k + rs.length)
  | [], k => rfl
  | r :: rs, k => by
    show labI gs k ++ (_ :: bodyG gs rs (k + 1)) = labI gs k ++ (_ :: bodyH gs rs (k + 1)) ++ labI gs (k + (rs.length + 1))
    rw [bodyH_G gs rs (k + 1), List.append_assoc, show k + 1 + rs.length = k + (rs.length + 1) by omega]
    rfl
theorem bodyH_len {gs : List Nat} : ∀ {rs : List PRow} {k : Nat}, (bodyH gs rs k).length ≤ 2 * rs.length
  | [], k => Nat.zero_le _
  | r :: rs, k => by
    show (labI gs k ++ (Itm.row r (rbS (goalR r)) :: bodyH gs rs (k + 1))).length ≤ _
    have h1 := labI_len (gs := gs) (k := k)
    have h2 := bodyH_len (gs := gs) (rs := rs) (k := k + 1)
    rw [List.length_append, List.length_cons, List.length_cons]
    omega
/-- a label, where one leads there -/
theorem lab_step {fi fk fl fg : DE} {ρ : Ev} {n : Nat} {S : Sto} {acc : List DV} {gs : List Nat} {k : Nat} (hk : k < 1000) (hz : acc.length < 1000) (hS : S[n]? = some (.lst acc)) (hset : S.length = n + 1) (hl : ∀ S, fl ρ S = some (.loc n, S)) (hi : ∀ S, fi ρ S = some (.int (k : Nat), S)) (hk2 : ∀ S, fk ρ S = some (.int (k : Nat), S)) (hg : ∀ S, fg ρ S = some (gD gs, S)) :
    dIfS (dBin (pIn false) fi fg) (dExpr (dMt pAppend fl (aCons (dBin pAdd (dC (.str "at r")) (dPrim pStr (aCons fk aNil))) aNil))) dNext ρ S = some (.nx ρ (S.set n (.lst (acc ++ (labI gs k).map lineD)))) := by
  have c : dBin (pIn false) fi fg ρ S = some (.bl (decide (k ∈ gs)), S) := bin_of (hi S) (hg S) in_gs
  unfold labI
  by_cases q : k ∈ gs
  · rw [decide_eq_true q] at c
    rw [if_pos q]
    exact (ifS_t c).trans (append_of (hl S) hS (lab_line hk (hk2 S)) (by omega))
  · rw [decide_eq_false q] at c
    rw [if_neg q, List.map_nil, List.append_nil]
    refine (ifS_f c).trans ?_
    have : S.set n (.lst acc) = S := by
      apply List.ext_getElem?
      intro i
      rw [List.getElem?_set]
      split
      · rename_i e
        subst e
        rw [if_pos (by omega), hS]
      · rfl
    rw [this]
    rfl
section
variable {cells shelves : List Trd} {rows : List PRow}
theorem n_goal (G : n_Pr cells shelves rows) : ∀ r ∈ rows, RowT r ∧ goalR r < 1000 := fun r h => ⟨(G.r r h).1, by have nz := G.nz; have := leadsIn_goal (G.r r h).2 (by omega); omega⟩
abbrev wrB : DS := (dSeq (dIfS (dBin (pIn false) (dVar 10) (dVar 2)) (dExpr (dMt pAppend (dVar 1) (aCons (dBin pAdd (dC (.str "at r")) (dPrim pStr (aCons (dVar 10) aNil))) aNil))) dNext)
  (dExpr (dMt pAppend (dVar 1) (aCons (dPrim (cP (pureOf F_line_of) []) (aCons (dVar 11) aNil)) aNil))))
theorem wr_loop {gs : List Nat} {x0 x3 x4 x5 x6 x7 x8 x9 : Option DV} : ∀ (rs : List PRow) (k : Nat) (acc : List DV) (x10 x11 : Option DV), (∀ r ∈ rs, RowT r ∧ goalR r < 1000) → acc.length + 2 * rs.length ≤ 900 → k + rs.length < 900 →
    ∃ y10 y11, forL (gTupD 2 (gsCons (gSet 10) (gsCons (gSet 11) gsNil))) wrB (enD k (rs.map PRow.d)) [x0, some (.loc 0), some (gD gs), x3, x4, x5, x6, x7, x8, x9, x10, x11] [.lst acc] = some (.nx [x0, some (.loc 0), some (gD gs), x3, x4, x5, x6, x7, x8, x9, y10, y11] [.lst (acc ++ (bodyH gs rs k).map lineD)])
  | [], k, acc, x10, x11, _, _, _ => ⟨x10, x11, by show _ = some (Out.nx _ [Cell.lst (acc ++ [])]); rw [List.append_nil]; rfl⟩
  | r :: rs, k, acc, x10, x11, hr, hz, hk => by
    rw [List.length_cons] at hz hk
    let E : Ev := [x0, some (.loc 0), some (gD gs), x3, x4, x5, x6, x7, x8, x9, some (.int (k : Nat)), some r.d]
    obtain ⟨h1, h2⟩ := hr r (List.mem_cons_self ..)
    have ll := labI_len (gs := gs) (k := k)
    have b1 : dIfS (dBin (pIn false) (dVar 10) (dVar 2)) (dExpr (dMt pAppend (dVar 1) (aCons (dBin pAdd (dC (.str "at r")) (dPrim pStr (aCons (dVar 10) aNil))) aNil))) dNext E [.lst acc] = some (.nx E [.lst (acc ++ (labI gs k).map lineD)]) :=
      lab_step (n := 0) (by omega) (by omega) rfl rfl (fun _ => rfl) (fun _ => rfl) (fun _ => rfl) (fun _ => rfl)
    have b2 : dExpr (dMt pAppend (dVar 1) (aCons (dPrim (cP (pureOf F_line_of) []) (aCons (dVar 11) aNil)) aNil)) E [.lst (acc ++ (labI gs k).map lineD)] = some (.nx E [.lst (acc ++ (labI gs k).map lineD ++ [lineD (.row r (rbS (goalR r)))])]) :=
      append_of (n := 0) (xs := acc ++ (labI gs k).map lineD) (y := lineD (.row r (rbS (goalR r)))) rfl rfl (callPP (args1 (x := r.d) rfl) (by rw [plainL_cons, PRow.plain_d]; rfl) (line_of_eq h1 h2)) (by rw [List.length_append, List.length_map]; omega)
    obtain ⟨y10, y11, el⟩ := wr_loop (gs := gs) (x0 := x0) (x3 := x3) (x4 := x4) (x5 := x5) (x6 := x6) (x7 := x7) (x8 := x8) (x9 := x9) rs (k + 1) (acc ++ (labI gs k).map lineD ++ [lineD (.row r (rbS (goalR r)))]) (some (.int (k : Nat))) (some r.d) (fun x hx => hr x (List.mem_cons_of_mem _ hx)) (by rw [List.length_append, List.length_append, List.length_map]; simp; omega) (by omega)
    refine ⟨y10, y11, ?_⟩
    rw [List.map_cons]
    unfold enD
    rw [forL_nx (ρ1 := E) (S1 := [.lst acc]) rfl ((seq_nx b1).trans b2), el]
    show some (Out.nx _ [Cell.lst (acc ++ (labI gs k).map lineD ++ [lineD _] ++ (bodyH gs rs (k + 1)).map lineD)]) = some (Out.nx _ [Cell.lst (acc ++ (labI gs k ++ (Itm.row r (rbS (goalR r)) :: bodyH gs rs (k + 1))).map lineD)])
    rw [List.map_append, List.map_cons, List.append_assoc, List.append_assoc]
    rfl
theorem text_sum (G : n_Pr cells shelves rows) : (((n_its cells shelves rows).map fun it : Itm => lnS it.ws).map (·.length)).sum + ((n_its cells shelves rows).map fun it : Itm => lnS it.ws).length * ("\n" : Str).length ≤ 16777216 := by
  have e1 : ("\n" : Str).length = 1 := by decide +kernel
  have h6 := n_sum_le (m := 4000) (l := ((n_its cells shelves rows).map fun it : Itm => lnS it.ws).map (·.length)) fun x hx => by
    rw [List.map_map] at hx
    obtain ⟨it, hit, rfl⟩ := List.mem_map.mp hx
    exact (item_ln (n_all G it hit)).2.1
  rw [List.length_map, List.length_map] at h6
  have h5 : (n_its cells shelves rows).length * 4000 ≤ 200 * 4000 := Nat.mul_le_mul_right _ (n_len G)
  have h4 := n_len G
  rw [e1, List.length_map]
  omega
theorem lines_its : (cells.map fun c => lineD (.cell c)) ++ (shelves.map fun c => lineD (.shelf c)) ++ (bodyG (goalsL rows) rows 0).map lineD = ((n_its cells shelves rows).map fun it : Itm => lnS it.ws).map .str := by
  rw [List.map_map]
  show _ = ((cells.map Itm.cell ++ shelves.map Itm.shelf) ++ bodyG (goalsL rows) rows 0).map _
  rw [List.map_append, List.map_append, List.map_map, List.map_map]
  rfl
theorem write_eq (G : n_Pr cells shelves rows) : pureOf F_write [n_PD cells shelves rows] = some (.str (textS (n_its cells shelves rows))) := by
  let P : DV := n_PD cells shelves rows
  let CD : DV := .tup (cells.map trD)
  let SD : DV := .tup (shelves.map trD)
  let RD : DV := .tup (rows.map PRow.d)
  let gs := goalsL rows
  have nz := G.nz
  have cz := G.cz
  have sz := G.sz
  let N (x1 x2 x6 x7 x8 x9 x10 x11 : Option DV) : Ev := [some P, x1, x2, some CD, some SD, some RD, x6, x7, x8, x9, x10, x11]
  let o : Option DV := none
  let l0 : Option DV := some (.loc 0)
  let CL := cells.map fun c => lineD (.cell c)
  let SL := shelves.map fun c => lineD (.shelf c)
  obtain ⟨ρ1, f1, x6, x7, x8, rfl⟩ := for_app (D := trD) (E := fun c => lineD (.cell c)) (g := gTupD 3 (gsCons (gSet 6) (gsCons (gSet 7) (gsCons (gSet 8) gsNil)))) (body := dExpr (dMt pAppend (dVar 1) (aCons (dBin pAdd (dBin pAdd (dBin pAdd (dBin pAdd (dBin pIx (dPrim pLst (aCons (dC (.str "cell")) (aCons (dC (.str "twin")) aNil))) (dPrim pInt (aCons (dVar 8) aNil))) (dC (.str " "))) (dVar 6)) (dC (.str " "))) (dPrim pStr (aCons (dVar 7) aNil))) aNil)))
    (I := fun ρ => ∃ x6 x7 x8, ρ = N l0 o x6 x7 x8 o o o) (st := fun b => [.lst b]) 500 cells [] (N l0 o o o o o o o) ⟨_, _, _, rfl⟩ (by simp; omega) fun c hc b ρ hb hI => by
      obtain ⟨x6, x7, x8, rfl⟩ := hI
      obtain ⟨h1, h2⟩ := G.c c hc
      let E := N l0 o (some (.str c.1)) (some (.int c.2.1)) (some (.bl c.2.2)) o o o
      exact ⟨E, [.lst b], E, rfl, append_of (n := 0) (xs := b) (y := lineD (.cell c)) rfl rfl (head_line (sh := false) (tw := c.2.2) h1 h2 (hd_cell rfl rfl) rfl rfl) (by omega), _, _, _, rfl⟩
  rw [List.nil_append] at f1
  obtain ⟨ρ2, f2, z6, z8, z9, rfl⟩ := for_app (D := trD) (E := fun c => lineD (.shelf c)) (g := gTupD 3 (gsCons (gSet 6) (gsCons (gSet 9) (gsCons (gSet 8) gsNil)))) (body := dExpr (dMt pAppend (dVar 1) (aCons (dBin pAdd (dBin pAdd (dBin pAdd (dBin pAdd (dBin pIx (dPrim pLst (aCons (dC (.str "shelf")) (aCons (dC (.str "twins")) aNil))) (dPrim pInt (aCons (dVar 8) aNil))) (dC (.str " "))) (dVar 6)) (dC (.str " "))) (dPrim pStr (aCons (dVar 9) aNil))) aNil)))
    (I := fun ρ => ∃ y6 y8 y9, ρ = N l0 o y6 x7 y8 y9 o o) (st := fun b => [.lst b]) 500 shelves CL (N l0 o x6 x7 x8 o o o) ⟨_, _, _, rfl⟩ (by show (cells.map _).length + _ ≤ _; rw [List.length_map]; omega) fun c hc b ρ hb hI => by
      obtain ⟨y6, y8, y9, rfl⟩ := hI
      obtain ⟨h1, h2⟩ := G.s c hc
      let E := N l0 o (some (.str c.1)) x7 (some (.bl c.2.2)) (some (.int c.2.1)) o o
      exact ⟨E, [.lst b], E, rfl, append_of (n := 0) (xs := b) (y := lineD (.shelf c)) rfl rfl (head_line (sh := true) (tw := c.2.2) h1 (in8 h2) (hd_shelf rfl rfl) rfl rfl) (by omega), _, _, _, rfl⟩
  let A : List DV := CL ++ SL
  have f2 : forL _ _ (shelves.map trD) (N l0 o x6 x7 x8 o o o) [.lst CL] = some (.nx (N l0 o z6 x7 z8 z9 o o) [.lst A]) := f2
  have Al : A.length = cells.length + shelves.length := by show (cells.map _ ++ shelves.map _).length = _; rw [List.length_append, List.length_map, List.length_map]
  have s3 : dSet 2 (dLc (iSeq (dVar 5)) (gSet 11) (dOr (dBin (pEq false) (dBin pIx (dVar 11) (dC (.int 0))) (dC (.str "go"))) (dBin (pEq false) (dBin pIx (dVar 11) (dC (.int 0))) (dC (.str "if")))) (dBin pIx (dVar 11) (dUn pNeg (dC (.int 1)))) [11]) (N l0 o z6 x7 z8 z9 o o) [.lst A] = some (.nx (N l0 (some (gD gs)) z6 x7 z8 z9 o o) [.lst A]) :=
    set_of (goals_lc (.inl ⟨rfl, rfl⟩) (show 11 < 12 by decide) (iSeqT_of (xs := rows.map PRow.d) rfl) (by omega))
  obtain ⟨y10, y11, f4⟩ := wr_loop (gs := gs) (x0 := some P) (x3 := some CD) (x4 := some SD) (x5 := some RD) (x6 := z6) (x7 := x7) (x8 := z8) (x9 := z9) rows 0 A o o (n_goal G) (by omega) (by omega)
  let B : List DV := A ++ (bodyH gs rows 0).map lineD
  have Bl := bodyH_len (gs := gs) (rs := rows) (k := 0)
  have s4 : dFor (iEnum2 (aCons (dVar 5) aNil)) (gTupD 2 (gsCons (gSet 10) (gsCons (gSet 11) gsNil))) wrB (N l0 (some (gD gs)) z6 x7 z8 z9 o o) [.lst A] = some (.nx (N l0 (some (gD gs)) z6 x7 z8 z9 y10 y11) [.lst B]) :=
    for_of (ds := enD 0 (rows.map PRow.d)) rfl f4
  have lnr : ∀ S : Sto, dPrim pLen (aCons (dVar 5) aNil) (N l0 (some (gD gs)) z6 x7 z8 z9 y10 y11) S = some (.int (rows.length : Nat), S) := fun S => (lenT_of (xs := rows.map PRow.d) rfl).trans (by rw [List.length_map])
  have s5 : dIfS (dBin (pIn false) (dPrim pLen (aCons (dVar 5) aNil)) (dVar 2)) (dExpr (dMt pAppend (dVar 1) (aCons (dBin pAdd (dC (.str "at r")) (dPrim pStr (aCons (dPrim pLen (aCons (dVar 5) aNil)) aNil))) aNil))) dNext (N l0 (some (gD gs)) z6 x7 z8 z9 y10 y11) [.lst B] = some (.nx (N l0 (some (gD gs)) z6 x7 z8 z9 y10 y11) [.lst (B ++ (labI gs rows.length).map lineD)]) :=
    lab_step (n := 0) (k := rows.length) (gs := gs) (by omega) (by show (A ++ (bodyH gs rows 0).map lineD).length < 1000; rw [List.length_append, List.length_map]; omega) rfl rfl (fun _ => rfl) lnr lnr (fun _ => rfl)
  have eB : B ++ (labI gs rows.length).map lineD = ((n_its cells shelves rows).map fun it : Itm => lnS it.ws).map .str := by
    rw [← lines_its, bodyH_G, Nat.zero_add, List.map_append, ← List.append_assoc]
  rw [eB] at s5
  have fin := join_loc (f := dC (.str "\n")) (g := dVar 1) (ρ := N l0 (some (gD gs)) z6 x7 z8 z9 y10 y11) (S := [.lst (((n_its cells shelves rows).map fun it : Itm => lnS it.ws).map .str)]) (a := "\n") (n := 0) rfl rfl rfl (text_sum G)
  have s0 : dAsg (dVar 0) (gTupD 3 (gsCons (gSet 3) (gsCons (gSet 4) (gsCons (gSet 5) gsNil)))) [some P, o, o, o, o, o, o, o, o, o, o, o] ([] : Sto) = some (.nx (N o o o o o o o o) []) := rfl
  exact pureOf_of (S' := [.lst (((n_its cells shelves rows).map fun it : Itm => lnS it.ws).map .str)]) (run_rt rfl ((seq_nx s0).trans ((seq_nx (ρ' := N l0 o o o o o o o) (S' := [.lst []]) rfl).trans ((seq_nx (for_of (iSeqT_of (xs := cells.map trD) rfl) f1)).trans ((seq_nx (for_of (iSeqT_of (xs := shelves.map trD) rfl) f2)).trans ((seq_nx s3).trans ((seq_nx s4).trans ((seq_nx s5).trans (ret_of fin))))))))) rfl
/-! ### the law's text -/
abbrev ltB : DS := (dSeq (dIfS (dBin (pIn false) (dVar 3) (dVar 2)) (dExpr (dMt pAppend (dVar 1) (aCons (dBin pAdd (dC (.str "at r")) (dPrim pStr (aCons (dVar 3) aNil))) aNil))) dNext)
  (dIfS (dBin pLt (dVar 3) (dPrim pLen (aCons (dBin pIx (dVar 0) (dC (.int 2))) aNil))) (dExpr (dMt pAppend (dVar 1) (aCons (dPrim (cP (pureOf F_law_line) []) (aCons (dBin pIx (dBin pIx (dVar 0) (dC (.int 2))) (dVar 3)) aNil)) aNil))) dNext))
def bodyT (gs : List Nat) (rows : List PRow) (k : Nat) : List Itm := if k ≤ rows.length then bodyG gs (rows.drop k) k else []
theorem lt_loop {A B : DV} {gs : List Nat} (hr : ∀ r ∈ rows, RowT r ∧ goalR r < 1000) (hn : rows.length ≤ 100) {x4 x5 x6 x7 x8 : Option DV} : ∀ (m k : Nat) (acc : List DV) (x3 : Option DV), k + m = rows.length + 1 → acc.length + 2 * m ≤ 900 →
    ∃ y3, forL (gSet 3) ltB ((List.range' k m).map fun (i : Nat) => DV.int i) [some (.tup [A, B, .tup (rows.map PRow.d)]), some (.loc 0), some (gD gs), x3, x4, x5, x6, x7, x8] [.lst acc] = some (.nx [some (.tup [A, B, .tup (rows.map PRow.d)]), some (.loc 0), some (gD gs), y3, x4, x5, x6, x7, x8] [.lst (acc ++ (bodyT gs rows k).map lineD)])
  | 0, k, acc, x3, h, _ => ⟨x3, by unfold bodyT; rw [if_neg (by omega), List.map_nil, List.append_nil]; rfl⟩
  | m + 1, k, acc, x3, h, hz => by
    let P : DV := .tup [A, B, .tup (rows.map PRow.d)]
    let E : Ev := [some P, some (.loc 0), some (gD gs), some (.int (k : Nat)), x4, x5, x6, x7, x8]
    have ll := labI_len (gs := gs) (k := k)
    let acc1 := acc ++ (labI gs k).map lineD
    have al : acc1.length ≤ acc.length + 1 := by show (acc ++ (labI gs k).map lineD).length ≤ _; rw [List.length_append, List.length_map]; omega
    have b1 : dIfS (dBin (pIn false) (dVar 3) (dVar 2)) (dExpr (dMt pAppend (dVar 1) (aCons (dBin pAdd (dC (.str "at r")) (dPrim pStr (aCons (dVar 3) aNil))) aNil))) dNext E [.lst acc] = some (.nx E [.lst acc1]) :=
      lab_step (n := 0) (by omega) (by omega) rfl rfl (fun _ => rfl) (fun _ => rfl) (fun _ => rfl) (fun _ => rfl)
    have rE : ∀ S : Sto, dBin pIx (dVar 0) (dC (.int 2)) E S = some (.tup (rows.map PRow.d), S) := fun S => bin_of (x := P) (y := .int 2) rfl rfl (Dn.ix_tup rfl)
    have c2 : dBin pLt (dVar 3) (dPrim pLen (aCons (dBin pIx (dVar 0) (dC (.int 2))) aNil)) E [.lst acc1] = some (.bl (decide (k < rows.length)), [.lst acc1]) := by
      refine bin_of (x := .int (k : Nat)) rfl ((lenT_of (rE _)).trans (by rw [List.length_map])) ?_
      rw [Dn.v_lt]
      congr 3
      exact decide_eq_decide.mpr (by omega)
    by_cases q : k < rows.length
    · obtain ⟨h1, h2⟩ := hr rows[k] (List.getElem_mem q)
      rw [decide_eq_true q] at c2
      let acc2 := acc1 ++ [lineD (.row rows[k] (rbS (goalR rows[k])))]
      have b2 : dExpr (dMt pAppend (dVar 1) (aCons (dPrim (cP (pureOf F_law_line) []) (aCons (dBin pIx (dBin pIx (dVar 0) (dC (.int 2))) (dVar 3)) aNil)) aNil)) E [.lst acc1] = some (.nx E [.lst acc2]) :=
        append_of (n := 0) (xs := acc1) (y := lineD (.row rows[k] (rbS (goalR rows[k])))) rfl rfl (callPP (args1 (bin_of (rE _) (y := .int (k : Nat)) rfl (Dn.ix_tup (atD_nat (by rw [List.getElem?_map, List.getElem?_eq_getElem q]; rfl))))) (by rw [plainL_cons, PRow.plain_d]; rfl) (law_line_eq h1 h2)) (by omega)
      obtain ⟨y3, el⟩ := lt_loop (A := A) (B := B) (gs := gs) hr hn (x4 := x4) (x5 := x5) (x6 := x6) (x7 := x7) (x8 := x8) m (k + 1) acc2 (some (.int (k : Nat))) (by omega) (by show (acc1 ++ [_]).length + _ ≤ _; rw [List.length_append, List.length_singleton]; omega)
      refine ⟨y3, ?_⟩
      rw [List.range'_succ, List.map_cons, forL_nx (ρ1 := E) (S1 := [.lst acc]) rfl ((seq_nx b1).trans ((ifS_t c2).trans b2)), el]
      have e1 : bodyT gs rows k = labI gs k ++ (Itm.row rows[k] (rbS (goalR rows[k])) :: bodyT gs rows (k + 1)) := by
        unfold bodyT
        rw [if_pos (by omega), if_pos (by omega), List.drop_eq_getElem_cons q]
        rfl
      rw [e1, List.map_append, List.map_cons]
      show some (Out.nx _ [Cell.lst (acc ++ (labI gs k).map lineD ++ [lineD _] ++ _)]) = _
      rw [List.append_assoc, List.append_assoc]
      rfl
    · rw [decide_eq_false q] at c2
      obtain ⟨y3, el⟩ := lt_loop (A := A) (B := B) (gs := gs) hr hn (x4 := x4) (x5 := x5) (x6 := x6) (x7 := x7) (x8 := x8) m (k + 1) acc1 (some (.int (k : Nat))) (by omega) (by omega)
      refine ⟨y3, ?_⟩
      rw [List.range'_succ, List.map_cons, forL_nx (ρ1 := E) (S1 := [.lst acc]) rfl ((seq_nx b1).trans ((ifS_f c2).trans rfl)), el]
      have e1 : bodyT gs rows k = labI gs k := by
        unfold bodyT
        rw [if_pos (by omega), List.drop_of_length_le (by omega)]
        rfl
      have e2 : bodyT gs rows (k + 1) = [] := by unfold bodyT; rw [if_neg (by omega)]
      rw [e1, e2, List.map_nil, List.append_nil]
theorem law_text_eq (G : n_Pr cells shelves rows) : pureOf F_law_text [n_PD cells shelves rows] = some (.str (textS (n_its cells shelves rows))) := by
  let P : DV := n_PD cells shelves rows
  let gs := goalsL rows
  have nz := G.nz
  have cz := G.cz
  have sz := G.sz
  let N (x1 x2 x3 x4 x5 x6 x7 x8 : Option DV) : Ev := [some P, x1, x2, x3, x4, x5, x6, x7, x8]
  let o : Option DV := none
  let l0 : Option DV := some (.loc 0)
  let CL := cells.map fun c => lineD (.cell c)
  let SL := shelves.map fun c => lineD (.shelf c)
  have iE : ∀ {ρ : Ev} {S : Sto} (i : Nat) {ds : List DV}, dVar 0 ρ S = some (P, S) → atD [.tup (cells.map trD), .tup (shelves.map trD), .tup (rows.map PRow.d)] (i : Nat) = some (.tup ds) → dBin pIx (dVar 0) (dC (.int (i : Nat))) ρ S = some (.tup ds, S) := fun {ρ S} i {ds} h0 h => bin_of (y := .int (i : Nat)) h0 rfl (Dn.ix_tup h)
  have s1 : dSet 1 (dLcM (iSeq (dBin pIx (dVar 0) (dC (.int 0)))) (gTupD 3 (gsCons (gSet 4) (gsCons (gSet 8) (gsCons (gSet 6) gsNil)))) (dC (.bl true)) (dBin pAdd (dBin pAdd (dBin pAdd (dBin pAdd (dBin pIx (dPrim pLst (aCons (dC (.str "cell")) (aCons (dC (.str "twin")) aNil))) (dPrim pInt (aCons (dVar 6) aNil))) (dC (.str " "))) (dVar 4)) (dC (.str " "))) (dPrim pStr (aCons (dVar 8) aNil))) [4, 8, 6]) (N o o o o o o o o) ([] : Sto) = some (.nx (N l0 o o o o o o o) [.lst CL]) :=
    set_of (dLcM_of (S1 := []) (S2 := []) (iSeqT_of (iE 0 rfl rfl)) (lc_all (D := trD) (E := fun c => lineD (.cell c)) (K := cells) fun c hc =>
      ⟨N o o o (some (.str c.1)) o (some (.bl c.2.2)) o (some (.int c.2.1)), rfl, rfl, head_line (sh := false) (tw := c.2.2) (G.c c hc).1 (G.c c hc).2 (hd_cell rfl rfl) rfl rfl⟩) (size_ok (by rw [List.length_map]; omega)))
  obtain ⟨ρ2, f2, z4, z5, z6, rfl⟩ := for_app (D := trD) (E := fun c => lineD (.shelf c)) (g := gTupD 3 (gsCons (gSet 4) (gsCons (gSet 5) (gsCons (gSet 6) gsNil)))) (body := dExpr (dMt pAppend (dVar 1) (aCons (dBin pAdd (dBin pAdd (dBin pAdd (dBin pAdd (dBin pIx (dPrim pLst (aCons (dC (.str "shelf")) (aCons (dC (.str "twins")) aNil))) (dPrim pInt (aCons (dVar 6) aNil))) (dC (.str " "))) (dVar 4)) (dC (.str " "))) (dPrim pStr (aCons (dVar 5) aNil))) aNil)))
    (I := fun ρ => ∃ y4 y5 y6, ρ = N l0 o o y4 y5 y6 o o) (st := fun b => [.lst b]) 500 shelves CL (N l0 o o o o o o o) ⟨_, _, _, rfl⟩ (by show (cells.map _).length + _ ≤ _; rw [List.length_map]; omega) fun c hc b ρ hb hI => by
      obtain ⟨y4, y5, y6, rfl⟩ := hI
      obtain ⟨h1, h2⟩ := G.s c hc
      let E := N l0 o o (some (.str c.1)) (some (.int c.2.1)) (some (.bl c.2.2)) o o
      exact ⟨E, [.lst b], E, rfl, append_of (n := 0) (xs := b) (y := lineD (.shelf c)) rfl rfl (head_line (sh := true) (tw := c.2.2) h1 (in8 h2) (hd_shelf rfl rfl) rfl rfl) (by omega), _, _, _, rfl⟩
  let A : List DV := CL ++ SL
  have f2 : forL _ _ (shelves.map trD) (N l0 o o o o o o o) [.lst CL] = some (.nx (N l0 o o z4 z5 z6 o o) [.lst A]) := f2
  have Al : A.length = cells.length + shelves.length := by show (cells.map _ ++ shelves.map _).length = _; rw [List.length_append, List.length_map, List.length_map]
  have s3 : dSet 2 (dLc (iSeq (dBin pIx (dVar 0) (dC (.int 2)))) (gSet 7) (dOr (dBin (pEq false) (dBin pIx (dVar 7) (dC (.int 0))) (dC (.str "if"))) (dBin (pEq false) (dBin pIx (dVar 7) (dC (.int 0))) (dC (.str "go")))) (dBin pIx (dVar 7) (dUn pNeg (dC (.int 1)))) [7]) (N l0 o o z4 z5 z6 o o) [.lst A] = some (.nx (N l0 (some (gD gs)) o z4 z5 z6 o o) [.lst A]) :=
    set_of (goals_lc (.inr ⟨rfl, rfl⟩) (show 7 < 9 by decide) (iSeqT_of (iE 2 rfl rfl)) (by omega))
  obtain ⟨y3, f4⟩ := lt_loop (A := .tup (cells.map trD)) (B := .tup (shelves.map trD)) (gs := gs) (n_goal G) (by omega) (x4 := z4) (x5 := z5) (x6 := z6) (x7 := o) (x8 := o) (rows.length + 1) 0 A o (by omega) (by omega)
  have lnr : dBin pAdd (dPrim pLen (aCons (dBin pIx (dVar 0) (dC (.int 2))) aNil)) (dC (.int 1)) (N l0 (some (gD gs)) o z4 z5 z6 o o) [.lst A] = some (.int ((rows.length + 1 : Nat) : Int), [.lst A]) := by
    refine (addI_of (b := 1) ((lenT_of (iE 2 (S := [.lst A]) rfl rfl)).trans (by rw [List.length_map])) rfl).trans ?_
    rfl
  have eB : A ++ (bodyT gs rows 0).map lineD = ((n_its cells shelves rows).map fun it : Itm => lnS it.ws).map .str := by
    rw [← lines_its]
    unfold bodyT
    rw [if_pos (Nat.zero_le _), List.drop_zero]
  have s4 : dFor (iRange1 (aCons (dBin pAdd (dPrim pLen (aCons (dBin pIx (dVar 0) (dC (.int 2))) aNil)) (dC (.int 1))) aNil)) (gSet 3) ltB (N l0 (some (gD gs)) o z4 z5 z6 o o) [.lst A] = some (.nx (N l0 (some (gD gs)) y3 z4 z5 z6 o o) [.lst (((n_its cells shelves rows).map fun it : Itm => lnS it.ws).map .str)]) := by
    rw [← eB]
    exact for_of (rgN_of lnr (by omega)) (by rw [List.range_eq_range']; exact f4)
  have fin := join_loc (f := dC (.str "\n")) (g := dVar 1) (ρ := N l0 (some (gD gs)) y3 z4 z5 z6 o o) (S := [.lst (((n_its cells shelves rows).map fun it : Itm => lnS it.ws).map .str)]) (a := "\n") (n := 0) rfl rfl rfl (text_sum G)
  exact pureOf_of (S' := [.lst (((n_its cells shelves rows).map fun it : Itm => lnS it.ws).map .str)]) (run_rt rfl ((seq_nx s1).trans ((seq_nx (for_of (iSeqT_of (iE 1 rfl rfl)) f2)).trans ((seq_nx s3).trans ((seq_nx s4).trans (ret_of fin)))))) rfl
end
end Lk12

namespace Lk12
open PySem PySem.Spec PyProof.Rows L2 Dn
/-! ### alike -/
def Alk : Nat → DV → Prop
  | 0, _ => False
  | n + 1, d => (∃ i, d = .int i) ∨ (∃ s, d = .str s) ∨ (∃ b, d = .bl b) ∨ ∃ ds, d = .tup ds ∧ ds.length ≤ 1000 ∧ ∀ x ∈ ds, Alk n x
theorem n_blsD : ∀ l : List Nat, blsD (l.map fun _ => DV.bl true) = some (l.map fun _ => true)
  | [] => rfl
  | a :: l => by
    rw [List.map_cons]
    unfold blsD
    rw [n_blsD l]; rfl
theorem n_all_true (l : List Nat) {S : Sto} : pAll [.lst .own (l.map fun _ => DV.bl true)] S = some (.bl true, S) := by
  unfold pAll
  simp only [asL_lst, n_blsD]
  rw [show (l.map fun _ => true).all id = true by rw [List.all_eq_true]; intro x hx; obtain ⟨_, _, rfl⟩ := List.mem_map.mp hx; rfl]
theorem n_alike : ∀ (n : Nat) (d : DV), Alk n d → runF 2 3 (br_law_alike n) [d, d] [] = some (.bl true, [])
  | 0, d, h => h.elim
  | n + 1, d, h => by
    have ih := n_alike n
    show runF 2 3 (b_law_alike (br_law_alike n)) [d, d] [] = _
    rcases h with ⟨i, rfl⟩ | ⟨s, rfl⟩ | ⟨b, rfl⟩ | ⟨ds, rfl, hz, A⟩
    · exact run_rt rfl ((seq_nx ((ifS_f rfl).trans rfl)).trans ((seq_nx ((ifS_f rfl).trans rfl)).trans (seq_rt ((ifS_t rfl).trans (ret_of (and_t rfl (and_t rfl (bin_of (x := .int i) (y := .int i) rfl rfl (eq_int false)))))))))
    · refine run_rt rfl ((seq_nx ((ifS_f rfl).trans rfl)).trans ((seq_nx ((ifS_f rfl).trans rfl)).trans ((seq_nx ((ifS_f rfl).trans rfl)).trans (ret_of (and_t rfl (bin_of (x := .str s) (y := .str s) rfl rfl ?_))))))
      rw [v_eqS, decide_eq_true rfl]
    · exact run_rt rfl ((seq_nx ((ifS_f rfl).trans rfl)).trans (seq_rt ((ifS_t rfl).trans (ret_of (and_t rfl (bin_of (x := .bl b) (y := .bl b) rfl rfl (by cases b <;> rfl)))))))
    · let ρ : Ev := [some (.tup ds), some (.tup ds), none]
      have l0 := lenT_of (f := dVar 0) (ρ := ρ) (S := []) (S1 := []) (xs := ds) rfl
      have l1 := lenT_of (f := dVar 1) (ρ := ρ) (S := []) (S1 := []) (xs := ds) rfl
      have fin : dRet (dPrim pAll (aCons (dLc (iRange1 (aCons (dPrim pLen (aCons (dVar 1) aNil)) aNil)) (gSet 2) (dC (.bl true)) (dPrim (cS (runF 2 3 (br_law_alike n)) []) (aCons (dBin pIx (dVar 0) (dVar 2)) (aCons (dBin pIx (dVar 1) (dVar 2)) aNil))) [2]) aNil)) ρ [] = some (.rt (.bl true) []) := by
        refine ret_of (prim_of (args1 (dLc_of (vs := [2]) (rgN_of (n := ds.length) l1 (by omega)) (lc_all (D := fun (i : Nat) => DV.int i) (E := fun _ => DV.bl true) (K := List.range ds.length) fun i hi => ?_) (size_ok (by rw [List.length_map, List.length_range]; omega)))) (n_all_true _))
        have hl := List.mem_range.mp hi
        have e := List.getElem?_eq_getElem hl
        exact ⟨[some (.tup ds), some (.tup ds), some (.int (i : Nat))], rfl, rfl, callS (args2 (bin_of (x := .tup ds) (y := .int (i : Nat)) rfl rfl (ix_tup (atD_nat e))) (bin_of (x := .tup ds) (y := .int (i : Nat)) rfl rfl (ix_tup (atD_nat e)))) (ih _ (A _ (List.getElem_mem hl)))⟩
      exact run_rt rfl (seq_rt ((ifS_t rfl).trans ((seq_nx ((ifS_f (or_f rfl (bin_of l0 l1 (eq_int true)))).trans rfl)).trans fin)))
theorem alk_tup {n : Nat} {ds : List DV} (hz : ds.length ≤ 1000) (h : ∀ x ∈ ds, Alk n x) : Alk (n + 1) (.tup ds) := .inr (.inr (.inr ⟨ds, rfl, hz, h⟩))
theorem n_PD_alk {cells shelves : List Trd} {rows : List PRow} (G : n_Pr cells shelves rows) : Alk 5 (n_PD cells shelves rows) := by
  have nz := G.nz
  have cz := G.cz
  have sz := G.sz
  have at_ : ∀ {a : Atm} {n : Nat}, Alk (n + 1) a.d := fun {a n} => by
    cases a with
    | n i => exact .inl ⟨i, rfl⟩
    | x s => exact .inr (.inl ⟨s, rfl⟩)
  have st : ∀ {s : Str} {n : Nat}, Alk (n + 1) (.str s) := fun {s n} => .inr (.inl ⟨s, rfl⟩)
  have it : ∀ {s : Int} {n : Nat}, Alk (n + 1) (.int s) := fun {s n} => .inl ⟨s, rfl⟩
  have td : ∀ c : Trd, Alk 3 (trD c) := fun c => alk_tup (by simp) (List.forall_mem_cons.mpr ⟨st, List.forall_mem_cons.mpr ⟨it, List.forall_mem_cons.mpr ⟨.inr (.inr (.inl ⟨_, rfl⟩)), fun _ z => nomatch z⟩⟩⟩)
  have rd : ∀ r : PRow, Alk 3 r.d := fun r => by
    cases r with
    | say a => exact alk_tup (by simp) (List.forall_mem_cons.mpr ⟨st, List.forall_mem_cons.mpr ⟨at_, fun _ z => nomatch z⟩⟩)
    | endr a => exact alk_tup (by simp) (List.forall_mem_cons.mpr ⟨st, List.forall_mem_cons.mpr ⟨at_, fun _ z => nomatch z⟩⟩)
    | hear x => exact alk_tup (by simp) (List.forall_mem_cons.mpr ⟨st, List.forall_mem_cons.mpr ⟨st, fun _ z => nomatch z⟩⟩)
    | go n => exact alk_tup (by simp) (List.forall_mem_cons.mpr ⟨st, List.forall_mem_cons.mpr ⟨it, fun _ z => nomatch z⟩⟩)
    | ifr a n => exact alk_tup (by simp) (List.forall_mem_cons.mpr ⟨st, List.forall_mem_cons.mpr ⟨at_, List.forall_mem_cons.mpr ⟨it, fun _ z => nomatch z⟩⟩⟩)
    | copy x a => exact alk_tup (by simp) (List.forall_mem_cons.mpr ⟨st, List.forall_mem_cons.mpr ⟨st, List.forall_mem_cons.mpr ⟨at_, fun _ z => nomatch z⟩⟩⟩)
    | load x c => exact alk_tup (by simp) (List.forall_mem_cons.mpr ⟨st, List.forall_mem_cons.mpr ⟨st, List.forall_mem_cons.mpr ⟨st, fun _ z => nomatch z⟩⟩⟩)
    | store c a => exact alk_tup (by simp) (List.forall_mem_cons.mpr ⟨st, List.forall_mem_cons.mpr ⟨st, List.forall_mem_cons.mpr ⟨at_, fun _ z => nomatch z⟩⟩⟩)
    | take x s a => exact alk_tup (by simp) (List.forall_mem_cons.mpr ⟨st, List.forall_mem_cons.mpr ⟨st, List.forall_mem_cons.mpr ⟨st, List.forall_mem_cons.mpr ⟨at_, fun _ z => nomatch z⟩⟩⟩⟩)
    | lay s a b => exact alk_tup (by simp) (List.forall_mem_cons.mpr ⟨st, List.forall_mem_cons.mpr ⟨st, List.forall_mem_cons.mpr ⟨at_, List.forall_mem_cons.mpr ⟨at_, fun _ z => nomatch z⟩⟩⟩⟩)
    | op x g a b => exact alk_tup (by simp) (List.forall_mem_cons.mpr ⟨st, List.forall_mem_cons.mpr ⟨st, List.forall_mem_cons.mpr ⟨st, List.forall_mem_cons.mpr ⟨at_, List.forall_mem_cons.mpr ⟨at_, fun _ z => nomatch z⟩⟩⟩⟩⟩)
  have l1 : ∀ l : List Trd, l.length ≤ 1000 → Alk 4 (.tup (l.map trD)) := fun l hl => alk_tup (by rw [List.length_map]; exact hl) fun x hx => by
    obtain ⟨c, _, rfl⟩ := List.mem_map.mp hx
    exact td c
  have l2 : Alk 4 (.tup (rows.map PRow.d)) := alk_tup (by rw [List.length_map]; omega) fun x hx => by
    obtain ⟨c, _, rfl⟩ := List.mem_map.mp hx
    exact rd c
  exact alk_tup (by simp) (List.forall_mem_cons.mpr ⟨l1 cells (by omega), List.forall_mem_cons.mpr ⟨l1 shelves (by omega), List.forall_mem_cons.mpr ⟨l2, fun _ z => nomatch z⟩⟩⟩)
theorem n_right {cells shelves : List Trd} {rows : List PRow} (G : n_Pr cells shelves rows) : pureOf F_law_right [n_PD cells shelves rows] = some (.bl true) := by
  let P : DV := n_PD cells shelves rows
  let T : Str := textS (n_its cells shelves rows)
  have pP : plain P = true := n_PD_plain
  have p1 : plainL [P] = true := by rw [plainL_cons, pP]; rfl
  let N (x1 x2 : Option DV) : Ev := [some P, x1, x2]
  have s1 : dSet 1 (dPrim (cP (pureOf F_law_text) []) (aCons (dVar 0) aNil)) (N none none) [] = some (.nx (N (some (.str T)) none) []) := set_of (callPP (args1 (x := P) rfl) p1 (law_text_eq G))
  have s2 : dSet 2 (dPrim (cP (pureOf F_write) []) (aCons (dVar 0) aNil)) (N (some (.str T)) none) [] = some (.nx (N (some (.str T)) (some (.str T))) []) := set_of (callPP (args1 (x := P) rfl) p1 (write_eq G))
  let ρ := N (some (.str T)) (some (.str T))
  have eq : dBin (pEq false) (dVar 2) (dVar 1) ρ [] = some (.bl true, []) := (eqS_of (a := T) (b := T) rfl rfl).trans (by rw [decide_eq_true rfl])
  have al : pureOf F_law_alike [P, P] = some (.bl true) := pureOf_of (S' := []) (n_alike 5 P (n_PD_alk G)) rfl
  have e3 : dPrim (cP (pureOf F_law_alike) []) (aCons (dPrim (cP (pureOf F_read) []) (aCons (dVar 1) aNil)) (aCons (dVar 0) aNil)) ρ [] = some (.bl true, []) :=
    callPP (args2 (callPP (args1 (x := .str T) rfl) rfl (n_read G)) (y := P) rfl) (by rw [plainL_cons, plainL_cons, pP]; rfl) al
  exact pureOf_of (S' := []) (run_rt rfl ((seq_nx s1).trans ((seq_nx s2).trans (ret_of (and_t rfl (and_t eq e3)))))) rfl
theorem law_true (ns : List Int) (hl : ns.length ≤ 63) : ∃ S', F_law [.lst .ext (ns.map DV.int)] [] = some (.bl true, S') := by
  let Sc : DV := .lst .ext (ns.map DV.int)
  have pSc : plain Sc = true := by simp [Sc]
  obtain ⟨c1, h1, r1, G1, e1⟩ := n_prog ns 0 (by decide)
  obtain ⟨c2, h2, r2, G2, e2⟩ := n_prog ns 29 (by decide)
  let P1 : DV := n_PD c1 h1 r1
  let P2 : DV := n_PD c2 h2 r2
  have p1 : plainL [P1] = true := by rw [plainL_cons, show plain P1 = true from n_PD_plain]; rfl
  have p2 : plainL [P2] = true := by rw [plainL_cons, show plain P2 = true from n_PD_plain]; rfl
  let N (x1 x2 : Option DV) : Ev := [some Sc, x1, x2]
  have s1 : dSet 1 (dPrim (cP (pureOf F_law_program) []) (aCons (dVar 0) (aCons (dC (.int 0)) aNil))) (N none none) [] = some (.nx (N (some P1) none) []) := set_of (callPP (args2 (x := Sc) rfl rfl) (by rw [plainL_cons, pSc]; rfl) e1)
  have s2 : dSet 2 (dPrim (cP (pureOf F_law_program) []) (aCons (dVar 0) (aCons (dC (.int 29)) aNil))) (N (some P1) none) [] = some (.nx (N (some P1) (some P2)) []) := set_of (callPP (args2 (x := Sc) rfl rfl) (by rw [plainL_cons, pSc]; rfl) e2)
  let ρ := N (some P1) (some P2)
  have k1 : dPrim (cP (pureOf F_law_right) []) (aCons (dVar 1) aNil) ρ [] = some (.bl true, []) := callPP (args1 (x := P1) rfl) p1 (n_right G1)
  have k2 : dPrim (cP (pureOf F_law_right) []) (aCons (dVar 2) aNil) ρ [] = some (.bl true, []) := callPP (args1 (x := P2) rfl) p2 (n_right G2)
  exact ⟨[], run_rt rfl ((seq_nx s1).trans ((seq_nx s2).trans (ret_of (and_t k1 (and_t k2 k1)))))⟩
end Lk12

namespace Lk12
open PySem PySem.Spec PyProof.Rows L2 Dn
theorem walk_law {P : Program} {w : World} {K : PySem.W.Frag} {h : Heap} {mg : Str → Option Value} {f : Addr} (X : K.In h) (G : h.Ns mainGlobals mg) (hfa : mg ("law" : Str) = some (.ref f)) (c : He.SaysD fa fn K) (e : ex K = true) :
    ∃ fd : FuncData, (∀ (s : Shared) (v : Value), BindsTo s fd ⟨[v], []⟩ [("_law_script", v)]) ∧ ∀ base : Heap, K.In base → base.Ns mainGlobals mg → FnOk P w K mg base CX0 10 f fd ["_law_script"] (spS K 1 F_law) := by
  have Y : Fx K mg := ⟨⟨h, X, G⟩, c, e⟩
  obtain ⟨fd, FD⟩ := Y.c.def_ 28 (d := d_law) rfl
  have e0 := hfa.symm.trans (Y.glo 28)
  cases e0
  have b := FunD.bindsA (ps := ["_law_script"]) FD fun _ _ _ _ _ _ us hl => match us, hl with | [_], _ => rfl
  exact ⟨fd, fun s v => b s [v] rfl, fun base _ _ => ok_law_fn FD Y⟩
end Lk12
open PySem PySem.W PySem.Calls PyProof.Rows
set_option maxHeartbeats 0 in
theorem PySem.Challenge.cw_dimhouse_k12_written_and_read_holds : PySem.Challenge.rw_dimhouse_k12_written_and_read.Holds := by
  w_on; o_law
  refine HandSHeadRun.head_any (r := OpenLaw.row PySem.Challenge.rw_dimhouse_k12_written_and_read) (q := view (OpenLaw.row PySem.Challenge.rw_dimhouse_k12_written_and_read).prog [40]) (H := Lk12.hk) (ob := Lk12.ob) (M := 20000) (loose := Lk12.loose) (d := HandSHeadRun.topDef (OpenLaw.row PySem.Challenge.rw_dimhouse_k12_written_and_read).prog 40) (kwd := []) Lk12.ob_eq
    (by kernel_rfl) (fun s => by kernel_rfl) Lk12.run (by kernel_rfl) (by kernel_rfl) (by kernel_rfl) (by rfl) (by first | assumption | decide +kernel) (by decide +kernel) ⟨rfl, rfl, rfl, rfl, rfl, by decide +kernel⟩ ?hw ?hc
  case hw => w_witness2
  case hc =>
    refine L2.walk_ofE (l := PySem.Challenge.rw_dimhouse_k12_written_and_read) (n := 63) (k := 10) (x := "_law_script") (CX := L2.CX0) rfl (by decide) (by kernel_rfl) ⟨rfl, by decide, by decide⟩ ?F (fun _ _ _ _ z => z)
    intro w mg fa h Y G hmg0
    obtain ⟨K, KX, c, e⟩ := Y
    have hmg : mg ("law" : PySem.Str) = some (.ref fa) := by
      have e : (HandSHeadRun.topDef (OpenLaw.row PySem.Challenge.rw_dimhouse_k12_written_and_read).prog 40).name = ("law" : PySem.Str) := by kernel_rfl
      rw [← e]
      exact hmg0
    obtain ⟨fd, hb, hF⟩ := Lk12.walk_law (P := (PySem.Challenge.rw_dimhouse_k12_written_and_read).prog) (w := w) KX G hmg c e
    exact ⟨K, fd, Dn.spS K 1 Lk12.F_law, KX, hb, fun H a ns hl _ hS => Dn.spS_law hS (Lk12.law_true ns hl), hF⟩
