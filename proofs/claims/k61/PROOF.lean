import PyProof.Rows.All
import Wide.All
import OpenK.AllK
import Wide.FinOn
import HandS.ForMost
import HandS.HeadHook1
import KE.KDictCopyH
import HandS.Defaults
import HandS.TupAny
import HandS.IsInst
import HandS.Wide
import HandS.Style
import HandS.TupLen
import HandS.RevRange
import HandS.Deep
import HandS.RaiseMore
import HandS.Conv
import HandS.More
import HandS.Walk
import HandS.Rev
import HandS.Zip
import HandS.NoneIn
import HandS.SortInts
import KE.KStateDown
import HandS.HeadHook2
import HandS.Head0
import HandS.Head1
import HandS.Head2
import HandS.HeadEnd
import HandS.Words
import KE.GoesMore
import KE.GoesEnum
import HandS.Iter
import HandS.Text
import KE.OsArith
import HandS.TryOnly
import HandS.List
import HandS.Replace
import HandS.Set
import KE.KDictDisplayH
import HandS.Head3
import HandS.HeadHook3
import HandS.SetFor
import HandS.SetKeys
import PyProof.P3In
import PyProof.Rows.InDataRows
import PyProof.ListMulRoad
import PyProof.FactsAll.tuple_2
import HandS.TupMul
import HandS.Dict
import HandS.TupSets
import PyProof.StrBlock2
import PyProof.Rows.StrMul
import HandS.RevTup
import PyProof.ListRange
import PyProof.WalksS
import PyProof.WalkInts
import PyProof.ConsumeS
import HandS.SortKw
import OpenK.KMake
import HandS.Call
import HandS.Codes
import HandS.New0
import PySem.Challenge.RW_dimhouse_k61_what_stays
set_option Elab.async false
set_option linter.all false
set_option maxRecDepth 100000
set_option maxHeartbeats 0
namespace Dn
open PySem L2

end Dn

namespace Dn
open PySem L2


end Dn

namespace Dn
open PySem PySem.Spec PyProof.Rows L2


end Dn

namespace Dn
open PySem PySem.Spec PyProof.Rows L2

end Dn

namespace Dn
open PySem PySem.Spec PyProof.Rows L2


end Dn

namespace Dn
open PySem PySem.Spec PyProof.Rows L2

end Dn

namespace Dn
open PySem PySem.Spec PyProof.Rows L2


end Dn

namespace Dn
open PySem PySem.Spec PyProof.Rows L2

end Dn

namespace Dn
open PySem PySem.Spec PyProof.Rows L2


end Dn

namespace Dn
open PySem PySem.Spec PyProof.Rows L2

section
def frees : List He.Fa := [.free "len", .free "isinstance", .free "range", .free "enumerate", .free "list", .free "tuple", .free "str", .free "int", .free "max", .free "min", .free "sum", .free "any", .free "all", .free "sorted", .free "set", .free "reversed", .free "bool", .free "dict", .free "zip", .free "ValueError"]
end
abbrev AlX : Type := He.AlD × Bool
def obsX (n : Nat) (fa : List He.Fa) (fn : List He.DefD) (ex : PySem.W.Frag → Bool) (g : Addr → Option Obj) : AlX := (He.obsD fa fn (He.frG g (He.asD g n)), ex (He.frG g (He.asD g n)))
def hookX (n : Nat) (fa : List He.Fa) (fn : List He.DefD) (ex : PySem.W.Frag → Bool) : PySem.W.Hook where
  α := AlX
  obs := fun s => obsX n fa fn ex s.heap.get?
  val := fun _ => (He.valD fn, true)
  says := fun _ h => ∃ K : PySem.W.Frag, K.In h ∧ He.SaysD fa fn K ∧ ex K = true
  of := fun _ _ e => ⟨_, He.frG_in, congrArg Prod.fst e, congrArg Prod.snd e⟩
  keeps := fun _ _ _ ⟨K, hK, c⟩ k => ⟨K, PySem.W.Frag.In.keeps hK k, c⟩
theorem obsX_eq {n : Nat} {fa : List He.Fa} {fn : List He.DefD} {ex : PySem.W.Frag → Bool} {g : Addr → Option Obj} {s : Shared} (h : ∀ a, g a = s.heap.get? a) : obsX n fa fn ex g = (hookX n fa fn ex).obs s := by
  have e : g = s.heap.get? := funext h
  rw [e] <;> rfl
end Dn

namespace Dn
open PySem PySem.Spec PyProof.Rows L2


end Dn

namespace Dn
open PySem PySem.Spec PyProof.Rows L2
end Dn

namespace Dn
open PySem PySem.Spec PyProof.Rows L2

end Dn

namespace Dn
open PySem PySem.Spec PyProof.Rows L2
end Dn

namespace Dn
open PySem PySem.Spec PyProof.Rows L2
/-- the classes' attributes that instances may have -/
abbrev ATab := List (Str × Str)

def atB (K : PySem.W.Frag) (T : ATab) : Bool := T.all fun p => (He.Fa.cls p.1).ok K && (He.Fa.noat p.1 p.2).ok K
end Dn

namespace Dn
open PySem PySem.Spec PyProof.Rows L2
end Dn

namespace Dn
open PySem PySem.Spec PyProof.Rows L2
end Dn

namespace Dn
open PySem PySem.Spec PyProof.Rows L2
end Dn

namespace Dn
open PySem PySem.Spec PyProof.Rows L2
end Dn

namespace Dn
open PySem PySem.Spec PyProof.Rows L2
end Dn

namespace Dn
open PySem PySem.Spec PyProof.Rows L2
end Dn

namespace Dn
open PySem PySem.Spec PyProof.Rows L2
end Dn

namespace Dn
open PySem PySem.Spec PyProof.Rows L2


end Dn

namespace Dn
open PySem PySem.Spec PyProof.Rows L2

end Dn

namespace Dn
open PySem PySem.Spec PyProof.Rows L2

end Dn

namespace Dn
open PySem PySem.Spec PyProof.Rows L2
end Dn

namespace Dn
open PySem PySem.Spec PyProof.Rows L2
end Dn

namespace Dn
open PySem PySem.Spec PyProof.Rows L2
end Dn

namespace Dn
open PySem PySem.Spec PyProof.Rows L2
end Dn

namespace Dn
open PySem PySem.Spec PyProof.Rows L2


end Dn

namespace Dn
open PySem PySem.Spec PyProof.Rows L2
end Dn

namespace Dn
open PySem PySem.Spec PyProof.Rows L2
end Dn

namespace Dn
open PySem PySem.Spec PyProof.Rows L2
end Dn

namespace Dn
open PySem PySem.Spec PyProof.Rows L2
end Dn

namespace Dn
open PySem PySem.Spec PyProof.Rows L2
end Dn

namespace Dn
open PySem PySem.Spec PyProof.Rows L2
end Dn

namespace RT
open PySem PySem.Spec PyProof.Rows
end RT
namespace Dn
open PySem PySem.Spec PyProof.Rows L2 RT
end Dn

namespace Dn
open PySem PySem.Spec PyProof.Rows L2
end Dn

namespace Dn
open PySem PySem.Spec PyProof.Rows L2
end Dn

namespace Dn
open PySem PySem.Spec PyProof.Rows L2
end Dn

namespace Dn
open PySem PySem.Spec PyProof.Rows L2
end Dn

namespace Dn
open PySem PySem.Spec PyProof.Rows L2
end Dn

namespace Dn
open PySem PySem.Spec PyProof.Rows L2
end Dn

namespace Dn
open PySem PySem.Spec PyProof.Rows L2
end Dn

namespace Dn
open PySem PySem.Spec PyProof.Rows L2
end Dn

namespace Dn
open PySem PySem.Spec PyProof.Rows L2
end Dn

namespace Dn
open PySem PySem.Spec PyProof.Rows L2
end Dn

namespace Dn
open PySem PySem.Spec PyProof.Rows L2
end Dn

namespace Dn
open PySem PySem.Spec PyProof.Rows L2
end Dn

namespace Dn
open PySem PySem.Spec PyProof.Rows L2
end Dn

namespace Dn
open PySem PySem.Spec PyProof.Rows L2
end Dn

namespace Dn
open PySem PySem.Spec PyProof.Rows L2
end Dn

namespace Dn
open PySem PySem.Spec PyProof.Rows L2
end Dn

namespace Dn
open PySem PySem.Spec PyProof.Rows L2
end Dn

namespace Dn
open PySem PySem.Spec PyProof.Rows L2
end Dn

namespace Dn
open PySem PySem.Spec PyProof.Rows L2
end Dn

namespace Dn
open PySem PySem.Spec PyProof.Rows L2
end Dn

namespace Lk61
open PySem PySem.Spec PyProof.Rows L2 Dn
def top (i : Nat) : Stmt := PySem.Challenge.pw_dimhouse_k61_what_stays.main.body.getD i (.Pass ⟨0, 0, 0, 0⟩)
abbrev s_Page_init : Stmt := inClass (top 1) 0
abbrev s_Store_init : Stmt := inClass (top 2) 0
abbrev s_Store_cell : Stmt := inClass (top 2) 1
abbrev s_Store_shelf : Stmt := inClass (top 2) 2
abbrev s_Store_get_home : Stmt := inClass (top 2) 3
abbrev s_Store_put : Stmt := inClass (top 2) 4
abbrev s_Store_face : Stmt := inClass (top 2) 5
abbrev s_Store_page : Stmt := inClass (top 2) 6
abbrev s_Store_begin_page : Stmt := inClass (top 2) 7
abbrev s_Store_keep_box : Stmt := inClass (top 2) 8
abbrev s_Store_keep_turn : Stmt := inClass (top 2) 9
abbrev s_Store_turn : Stmt := inClass (top 2) 10
abbrev s_Store_answer : Stmt := inClass (top 2) 11
abbrev s_Store_give : Stmt := inClass (top 2) 12
abbrev s_law_cell : Stmt := top 4
abbrev s_law_part : Stmt := top 5
abbrev s_law_name : Stmt := top 6
abbrev s_law_program : Stmt := top 7
abbrev s_law_model : Stmt := top 8
abbrev s_law_same : Stmt := top 9
abbrev s_law_told : Stmt := top 10
abbrev s_law_deed : Stmt := top 11
abbrev s_law : Stmt := top 12
def AT : ATab := [("Page", "head"), ("Page", "held"), ("Page", "turned"), ("Store", "home"), ("Store", "sizes"), ("Store", "pages"), ("Store", "front"), ("Store", "final")]
def d_Page_init : He.DefD := ⟨("Page", some "__init__"), "__init__", "Page.__init__", defArgs s_Page_init, defBody s_Page_init, defScope s_Page_init, [], []⟩
def d_Store_init : He.DefD := ⟨("Store", some "__init__"), "__init__", "Store.__init__", defArgs s_Store_init, defBody s_Store_init, defScope s_Store_init, [], []⟩
def d_Store_cell : He.DefD := ⟨("Store", some "cell"), "cell", "Store.cell", defArgs s_Store_cell, defBody s_Store_cell, defScope s_Store_cell, [], []⟩
def d_Store_shelf : He.DefD := ⟨("Store", some "shelf"), "shelf", "Store.shelf", defArgs s_Store_shelf, defBody s_Store_shelf, defScope s_Store_shelf, [], []⟩
def d_Store_get_home : He.DefD := ⟨("Store", some "get_home"), "get_home", "Store.get_home", defArgs s_Store_get_home, defBody s_Store_get_home, defScope s_Store_get_home, [], []⟩
def d_Store_put : He.DefD := ⟨("Store", some "put"), "put", "Store.put", defArgs s_Store_put, defBody s_Store_put, defScope s_Store_put, [], []⟩
def d_Store_face : He.DefD := ⟨("Store", some "face"), "face", "Store.face", defArgs s_Store_face, defBody s_Store_face, defScope s_Store_face, [], []⟩
def d_Store_page : He.DefD := ⟨("Store", some "page"), "page", "Store.page", defArgs s_Store_page, defBody s_Store_page, defScope s_Store_page, [], []⟩
def d_Store_begin_page : He.DefD := ⟨("Store", some "begin_page"), "begin_page", "Store.begin_page", defArgs s_Store_begin_page, defBody s_Store_begin_page, defScope s_Store_begin_page, [], []⟩
def d_Store_keep_box : He.DefD := ⟨("Store", some "keep_box"), "keep_box", "Store.keep_box", defArgs s_Store_keep_box, defBody s_Store_keep_box, defScope s_Store_keep_box, [], []⟩
def d_Store_keep_turn : He.DefD := ⟨("Store", some "keep_turn"), "keep_turn", "Store.keep_turn", defArgs s_Store_keep_turn, defBody s_Store_keep_turn, defScope s_Store_keep_turn, [], []⟩
def d_Store_turn : He.DefD := ⟨("Store", some "turn"), "turn", "Store.turn", defArgs s_Store_turn, defBody s_Store_turn, defScope s_Store_turn, [], []⟩
def d_Store_answer : He.DefD := ⟨("Store", some "answer"), "answer", "Store.answer", defArgs s_Store_answer, defBody s_Store_answer, defScope s_Store_answer, [], []⟩
def d_Store_give : He.DefD := ⟨("Store", some "give"), "give", "Store.give", defArgs s_Store_give, defBody s_Store_give, defScope s_Store_give, [], []⟩
def d_law_cell : He.DefD := ⟨("_law_cell", none), "_law_cell", "_law_cell", defArgs s_law_cell, defBody s_law_cell, defScope s_law_cell, [], []⟩
def d_law_part : He.DefD := ⟨("_law_part", none), "_law_part", "_law_part", defArgs s_law_part, defBody s_law_part, defScope s_law_part, [], []⟩
def d_law_name : He.DefD := ⟨("_law_name", none), "_law_name", "_law_name", defArgs s_law_name, defBody s_law_name, defScope s_law_name, [], []⟩
def d_law_program : He.DefD := ⟨("_law_program", none), "_law_program", "_law_program", defArgs s_law_program, defBody s_law_program, defScope s_law_program, [], []⟩
def d_law_model : He.DefD := ⟨("_law_model", none), "_law_model", "_law_model", defArgs s_law_model, defBody s_law_model, defScope s_law_model, [], []⟩
def d_law_same : He.DefD := ⟨("_law_same", none), "_law_same", "_law_same", defArgs s_law_same, defBody s_law_same, defScope s_law_same, [], []⟩
def d_law_told : He.DefD := ⟨("_law_told", none), "_law_told", "_law_told", defArgs s_law_told, defBody s_law_told, defScope s_law_told, [], []⟩
def d_law_deed : He.DefD := ⟨("_law_deed", none), "_law_deed", "_law_deed", defArgs s_law_deed, defBody s_law_deed, defScope s_law_deed, [], []⟩
def d_law : He.DefD := ⟨("law", none), "law", "law", defArgs s_law, defBody s_law, defScope s_law, [], []⟩
def fn0 : List He.DefD := [d_Page_init, d_Store_init, d_Store_cell, d_Store_shelf, d_Store_get_home, d_Store_put, d_Store_face, d_Store_page, d_Store_begin_page, d_Store_keep_box, d_Store_keep_turn, d_Store_turn, d_Store_answer, d_Store_give, d_law_cell, d_law_part, d_law_name, d_law_program, d_law_model, d_law_same, d_law_told, d_law_deed, d_law]
def fn : List He.DefD := fn0
def fac0 : List He.Fa := [.glo "_law_cell", .glo "_law_part", .glo "_law_name", .glo "_law_program", .glo "_law_model", .glo "_law_same", .glo "_law_told", .glo "_law_deed", .glo "law", .glo "Page", .cls "Page", .mkr "Page", .glo "Store", .cls "Store", .mkr "Store", .meth "Store" "cell", .meth "Store" "shelf", .meth "Store" "get_home", .meth "Store" "put", .meth "Store" "face", .meth "Store" "page", .meth "Store" "begin_page", .meth "Store" "keep_box", .meth "Store" "keep_turn", .meth "Store" "turn", .meth "Store" "answer", .meth "Store" "give"]
def fac : List He.Fa := fac0
def fa : List He.Fa := fac ++ frees
def ex (K : PySem.W.Frag) : Bool := atB K AT
end Lk61

namespace Lk61
open PySem PySem.Spec PyProof.Rows L2 Dn
/-! ### the head -/
abbrev R : PySem.W.OpenRow := PySem.W.OpenLaw.row PySem.Challenge.rw_dimhouse_k61_what_stays
abbrev hk : PySem.W.Hook := hookX 4 fa fn ex
def ob (s : PySem.W.SharedT) : AlX := obsX 4 fa fn ex (HandSHeadRun.getT s)
theorem ob_eq (s : PySem.W.SharedT) : ob s = hk.obs s.abs := obsX_eq (HandSHeadRun.getT_eq s)
def lo0 : List Str := ["_law_cell", "_law_part", "_law_name", "_law_program", "_law_model", "_law_same", "_law_told", "_law_deed", "Page", "Store"]
def loose : List Str := lo0
theorem run (w : World) : HandSHeadRun.RunEq R (PySem.W.view R.prog [12]) hk ob 20000 loose w := by
  intro os
  kernel_rfl
end Lk61

/-! A denotation layer over the hand layer: data values, a store of cells, and one rule for each construct. -/
namespace Dn
open PySem L2

/-! ### values -/
inductive LK where
  | own | bor | ext
  deriving DecidableEq
inductive DV where
  | non | bl (b : Bool) | int (i : Int) | str (s : Str)
  | tup (xs : List DV)
  | tupx (xs : List DV)
  | lst (k : LK) (xs : List DV)
  | dik (k : LK) (ks : List Key) (vs : List DV)
  | dit (k : LK) (ks : List (List Key)) (vs : List DV)
  | loc (n : Nat)
/-- a cell of the store -/
inductive Cell where
  | lst (xs : List DV)
  | dik (ks : List Key) (vs : List DV)
  | dit (ks : List (List Key)) (vs : List DV)
  | ins (C : Str) (fs : List (Str × DV))
  | frz (d : DV)
  | lok (ks : List Key) (vs : List DV)
  | lokt (ks : List (List Key)) (vs : List DV)
  | dlf (ks : List (Int × Bool)) (vs : List DV)
  | gone
abbrev Sto := List Cell
def Cell.live : Cell → Bool
  | .frz _ => false
  | .lok _ _ => false
  | .lokt _ _ => false
  | .gone => false
  | _ => true
/-- where data lies: frozen objects G, borrowed ones B, the cells' addresses -/
structure Fm where
  K : PySem.W.Frag
  G : Hp
  B : Hp
  /-- protected: it stays, but no data leans on it -/
  P : Hp
  lm : List Addr
def Fm.free (F : Fm) (a : Addr) : Prop := F.B a = none ∧ F.P a = none

mutual
def Rel (F : Fm) : DV → V → Prop
  | .non, v => v = .non
  | .bl b, v => v = .bl b
  | .int i, v => v = .int i
  | .str s, v => v = .str s
  | .tup ds, v => ∃ a xs, v = .ref a ∧ F.G a = some (.tup xs) ∧ RelL F ds xs
  | .tupx ds, v => ∃ a xs, v = .ref a ∧ SqT F.K F.G a xs ∧ RelL F ds xs
  | .lst .own ds, v => ∃ a xs, v = .ref a ∧ F.G a = some (.lst xs) ∧ RelL F ds xs
  | .lst .bor ds, v => ∃ a xs, v = .ref a ∧ (F.B a = some (.lst xs) ∨ F.G a = some (.lst xs)) ∧ RelL F ds xs
  | .lst .ext ds, v => ∃ a xs, v = .ref a ∧ SqL F.K F.G a xs ∧ RelL F ds xs
  | .dik k ks ds, v => ∃ a xs, v = .ref a ∧ ks.length = ds.length ∧ (F.G a = some (.dK (ks.zip xs)) ∨ (k ≠ .own ∧ F.B a = some (.dK (ks.zip xs)))) ∧ RelL F ds xs
  | .dit k ks ds, v => ∃ a xs, v = .ref a ∧ ks.length = ds.length ∧ (F.G a = some (.dT (ks.zip xs)) ∨ (k ≠ .own ∧ F.B a = some (.dT (ks.zip xs)))) ∧ RelL F ds xs
  | .loc n, v => ∃ a, F.lm[n]? = some a ∧ v = .ref a
def RelL (F : Fm) : List DV → List V → Prop
  | [], xs => xs = []
  | d :: ds, xs => ∃ x r, xs = x :: r ∧ Rel F d x ∧ RelL F ds r
end

structure Le (F F' : Fm) : Prop where
  k : F'.K = F.K
  b : F'.B = F.B
  p : F'.P = F.P
  g : Same F.G F'.G
  n : ∀ a o, F'.G a = some o → F.G a = some o ∨ F.free a
  m : F.lm <+: F'.lm
theorem Le.refl (F : Fm) : Le F F := ⟨rfl, rfl, rfl, Same.refl _, fun _ _ h => .inl h, List.prefix_refl _⟩
theorem Le.trans {F F1 F2 : Fm} (a : Le F F1) (b : Le F1 F2) : Le F F2 :=
  ⟨b.k.trans a.k, b.b.trans a.b, b.p.trans a.p, a.g.trans b.g, fun x o h => (b.n x o h).elim (fun h => a.n x o h) fun h => .inr ⟨by rw [← a.b]; exact h.1, by rw [← a.p]; exact h.2⟩, a.m.trans b.m⟩
theorem prefix_get {α : Type} {l l' : List α} (h : l <+: l') {n : Nat} {a : α} (e : l[n]? = some a) : l'[n]? = some a := by
  obtain ⟨t, rfl⟩ := h
  rw [List.getElem?_append_left (List.getElem?_eq_some_iff.mp e).1]
  exact e
theorem sqL_same {K : PySem.W.Frag} {H H' : Hp} {a : Addr} {xs : List V} (e : Same H H') (h : SqL K H a xs) : SqL K H' a xs := e.seq h
theorem sqT_same {K : PySem.W.Frag} {H H' : Hp} {a : Addr} {xs : List V} (e : Same H H') (h : SqT K H a xs) : SqT K H' a xs := by
  rcases h with h | h
  · rcases h with h | ⟨o, h⟩
    · exact .inl (.inl (e _ _ h))
    · exact .inl (.inr ⟨o, e _ _ h⟩)
  · exact .inr h

/-- monotone in all but what is put in and taken out -/
structure Wk (F F' : Fm) : Prop where
  k : F'.K = F.K
  b : Same F.B F'.B
  g : Same F.G F'.G
  m : F.lm <+: F'.lm
theorem Le.wk {F F' : Fm} (h : Le F F') : Wk F F' := ⟨h.k, by rw [h.b]; exact Same.refl _, h.g, h.m⟩
mutual
theorem Rel.wk {F F' : Fm} (w : Wk F F') : ∀ (d : DV) (v : V), Rel F d v → Rel F' d v
  | .non, v, h => h
  | .bl b, v, h => h
  | .int i, v, h => h
  | .str s, v, h => h
  | .tup ds, v, h => by
    obtain ⟨a, xs, e, hs, hl⟩ := h
    exact ⟨a, xs, e, w.g _ _ hs, RelL.wk w ds xs hl⟩
  | .tupx ds, v, h => by
    obtain ⟨a, xs, e, hs, hl⟩ := h
    exact ⟨a, xs, e, by rw [w.k]; exact sqT_same w.g hs, RelL.wk w ds xs hl⟩
  | .lst .own ds, v, h => by
    obtain ⟨a, xs, e, hs, hl⟩ := h
    exact ⟨a, xs, e, w.g _ _ hs, RelL.wk w ds xs hl⟩
  | .lst .bor ds, v, h => by
    obtain ⟨a, xs, e, hs, hl⟩ := h
    exact ⟨a, xs, e, hs.elim (fun h => .inl (w.b _ _ h)) fun h => .inr (w.g _ _ h), RelL.wk w ds xs hl⟩
  | .lst .ext ds, v, h => by
    obtain ⟨a, xs, e, hs, hl⟩ := h
    exact ⟨a, xs, e, by rw [w.k]; exact sqL_same w.g hs, RelL.wk w ds xs hl⟩
  | .dik k ks ds, v, h => by
    obtain ⟨a, xs, e, hn, hs, hl⟩ := h
    exact ⟨a, xs, e, hn, hs.elim (fun h => .inl (w.g _ _ h)) fun h => .inr ⟨h.1, w.b _ _ h.2⟩, RelL.wk w ds xs hl⟩
  | .dit k ks ds, v, h => by
    obtain ⟨a, xs, e, hn, hs, hl⟩ := h
    exact ⟨a, xs, e, hn, hs.elim (fun h => .inl (w.g _ _ h)) fun h => .inr ⟨h.1, w.b _ _ h.2⟩, RelL.wk w ds xs hl⟩
  | .loc n, v, h => by
    obtain ⟨a, e, hv⟩ := h
    exact ⟨a, prefix_get w.m e, hv⟩
theorem RelL.wk {F F' : Fm} (w : Wk F F') : ∀ (ds : List DV) (xs : List V), RelL F ds xs → RelL F' ds xs
  | [], xs, h => h
  | d :: ds, xs, h => by
    obtain ⟨x, r, e, h1, h2⟩ := h
    exact ⟨x, r, e, Rel.wk w d x h1, RelL.wk w ds r h2⟩
end
theorem Rel.le {F F' : Fm} (w : Le F F') {d : DV} {v : V} (h : Rel F d v) : Rel F' d v := Rel.wk w.wk d v h
theorem RelL.le {F F' : Fm} (w : Le F F') {ds : List DV} {vs : List V} (h : RelL F ds vs) : RelL F' ds vs := RelL.wk w.wk ds vs h
theorem RelL.length {F : Fm} : ∀ {ds : List DV} {vs : List V}, RelL F ds vs → ds.length = vs.length
  | [], vs, h => by
    have e : vs = [] := h
    rw [e] <;> rfl
  | d :: ds, vs, h => by
    obtain ⟨x, r, rfl, _, h2⟩ := h
    rw [List.length_cons, List.length_cons, h2.length]
theorem RelL.nil {F : Fm} {vs : List V} (h : RelL F [] vs) : vs = [] := h
theorem RelL.cons {F : Fm} {d : DV} {v : V} {ds : List DV} {vs : List V} (h1 : Rel F d v) (h2 : RelL F ds vs) : RelL F (d :: ds) (v :: vs) := ⟨v, vs, rfl, h1, h2⟩
theorem RelL.get {F : Fm} : ∀ {ds : List DV} {vs : List V} {i : Nat} {d : DV}, RelL F ds vs → ds[i]? = some d → ∃ v, vs[i]? = some v ∧ Rel F d v
  | [], vs, i, d, h, e => by simp at e
  | d0 :: ds, vs, 0, d, h, e => by
    obtain ⟨x, r, rfl, h1, h2⟩ := h
    have e' : d0 = d := by simpa using e
    subst e'
    exact ⟨x, rfl, h1⟩
  | d0 :: ds, vs, i + 1, d, h, e => by
    obtain ⟨x, r, rfl, h1, h2⟩ := h
    obtain ⟨v, e1, e2⟩ := RelL.get (i := i) h2 (by simpa using e)
    exact ⟨v, by simpa using e1, e2⟩
theorem RelL.append {F : Fm} : ∀ {ds es : List DV} {vs us : List V}, RelL F ds vs → RelL F es us → RelL F (ds ++ es) (vs ++ us)
  | [], es, vs, us, h, k => by
    have e : vs = [] := h
    rw [e]
    exact k
  | d :: ds, es, vs, us, h, k => by
    obtain ⟨x, r, rfl, h1, h2⟩ := h
    exact ⟨x, r ++ us, rfl, h1, RelL.append h2 k⟩
theorem RelL.set {F : Fm} {d : DV} {v : V} (r : Rel F d v) : ∀ {ds : List DV} {vs : List V} (i : Nat), RelL F ds vs → RelL F (ds.set i d) (vs.set i v)
  | [], vs, i, h => by
    have e : vs = [] := h
    rw [e]
    exact rfl
  | d0 :: ds, vs, 0, h => by
    obtain ⟨x, r', rfl, h1, h2⟩ := h
    exact ⟨v, r', rfl, r, h2⟩
  | d0 :: ds, vs, i + 1, h => by
    obtain ⟨x, r', rfl, h1, h2⟩ := h
    exact ⟨x, r'.set i v, rfl, h1, RelL.set r i h2⟩
theorem RelL.take {F : Fm} : ∀ {ds : List DV} {vs : List V} (n : Nat), RelL F ds vs → RelL F (ds.take n) (vs.take n)
  | [], vs, n, h => by
    have e : vs = [] := h
    rw [e, List.take_nil, List.take_nil]
    exact rfl
  | d0 :: ds, vs, 0, h => by
    rw [List.take_zero, List.take_zero]
    exact rfl
  | d0 :: ds, vs, n + 1, h => by
    obtain ⟨x, r', rfl, h1, h2⟩ := h
    exact ⟨x, r'.take n, rfl, h1, RelL.take n h2⟩
theorem RelL.drop {F : Fm} : ∀ {ds : List DV} {vs : List V} (n : Nat), RelL F ds vs → RelL F (ds.drop n) (vs.drop n)
  | [], vs, n, h => by
    have e : vs = [] := h
    rw [e, List.drop_nil, List.drop_nil]
    exact rfl
  | d0 :: ds, vs, 0, h => h
  | d0 :: ds, vs, n + 1, h => by
    obtain ⟨x, r', rfl, h1, h2⟩ := h
    exact RelL.drop n h2
/-! ### worlds -/
/-- a key (number, truth) -/
def lfK (k : Int × Bool) : List PySem.Leaf := [.num k.1, .num (if k.2 = true then 1 else 0)]
def lfD (k : Int × Bool) : DV := .tup [.int k.1, .bl k.2]
/-- an entry: the key, where its tuple stands, what is kept -/
abbrev LfE : Type := (Int × Bool) × Addr × V × Value
def LfE.raw (e : LfE) : List PySem.Leaf × Addr × Value := (lfK e.1, e.2.1, e.2.2.2)
def DLf (a : Addr) (xs : List (List PySem.Leaf × Addr × Value)) (h : Heap) : Prop :=
  (a == sysModules) = false ∧ xs.length ≤ sizeLine ∧ (xs.map (·.1)).Nodup ∧
    ∃ o es ep, h.get? a = some o ∧ o.ExactDict ∧ o.data = .dict es ep ∧ ∀ (P : Program) (w : World), es.toList = xs.map (entryOfKey (tupleKind (PySem.leafKind P w)))
def CellOk (F : Fm) (H : Hp) (a : Addr) : Cell → Prop
  | .lst ds => ∃ xs, H a = some (.lst xs) ∧ RelL F ds xs
  | .dik ks ds => ∃ xs, ks.length = ds.length ∧ H a = some (.dK (ks.zip xs)) ∧ RelL F ds xs
  | .dit ks ds => ∃ xs, ks.length = ds.length ∧ H a = some (.dT (ks.zip xs)) ∧ RelL F ds xs
  | .ins C fs => ∃ dx xs, H a = some (.ins (He.ga F.K C) dx ((fs.map (·.1)).zip xs)) ∧ RelL F (fs.map (·.2)) xs
  | .frz d => Rel F d (.ref a)
  | .lok ks ds => ∃ o xs, ks.length = ds.length ∧ F.P a = some (.frz o (.dK (ks.zip xs))) ∧ RelL F ds xs
  | .lokt ks ds => ∃ o xs, ks.length = ds.length ∧ F.P a = some (.frz o (.dT (ks.zip xs))) ∧ RelL F ds xs
  | .dlf ks ds => ∃ es : List LfE, H a = some (.ext (DLf a (es.map LfE.raw))) ∧ es.map (·.1) = ks ∧ RelL F (ks.map lfD) (es.map fun e => V.ref e.2.1) ∧ RelL F ds (es.map (·.2.2.1)) ∧ ∀ e ∈ es, RelV e.2.2.1 e.2.2.2
  | .gone => True
/-- what is locked stays locked -/
def PF (F F' : Fm) : Prop := ∀ a o u, F.P a = some (.frz o u) → F'.P a = some (.frz o u)
theorem Le.pf {F F' : Fm} (h : Le F F') : PF F F' := fun a o u e => by rw [h.p]; exact e
structure Rep (F : Fm) (S : Sto) (H : Hp) : Prop where
  g : Same F.G H
  b : Same F.B H
  p : Same F.P H
  tup : ∀ a xs, H a = some (.tup xs) → F.G a = some (.tup xs)
  len : F.lm.length = S.length
  cell : ∀ (n : Nat) (c : Cell) (a : Addr), S[n]? = some c → F.lm[n]? = some a → CellOk F H a c ∧ (c.live = true → F.G a = none ∧ F.free a)
  inj : ∀ (n m : Nat) (c c' : Cell) (a : Addr), S[n]? = some c → S[m]? = some c' → c.live = true → c'.live = true → F.lm[n]? = some a → F.lm[m]? = some a → n = m

theorem CellOk.wk {F F' : Fm} (w : Wk F F') (pf : PF F F') {H H' : Hp} {a : Addr} : ∀ {c : Cell}, CellOk F H a c → (c.live = true → H' a = H a) → CellOk F' H' a c
  | .lst ds, ⟨xs, e, r⟩, h => ⟨xs, (h rfl).trans e, RelL.wk w _ _ r⟩
  | .dik ks ds, ⟨xs, z, e, r⟩, h => ⟨xs, z, (h rfl).trans e, RelL.wk w _ _ r⟩
  | .dit ks ds, ⟨xs, z, e, r⟩, h => ⟨xs, z, (h rfl).trans e, RelL.wk w _ _ r⟩
  | .ins C fs, ⟨dx, xs, e, r⟩, h => ⟨dx, xs, by rw [w.k]; exact (h rfl).trans e, RelL.wk w _ _ r⟩
  | .frz d, r, _ => Rel.wk w _ _ r
  | .lok ks ds, ⟨o, xs, z, e, r⟩, _ => ⟨o, xs, z, pf _ _ _ e, RelL.wk w _ _ r⟩
  | .lokt ks ds, ⟨o, xs, z, e, r⟩, _ => ⟨o, xs, z, pf _ _ _ e, RelL.wk w _ _ r⟩
  | .dlf ks ds, ⟨es, e, z, r1, r2, t⟩, h => ⟨es, (h rfl).trans e, z, RelL.wk w _ _ r1, RelL.wk w _ _ r2, t⟩
  | .gone, _, _ => trivial
theorem CellOk.some {F : Fm} {H : Hp} {a : Addr} : ∀ {c : Cell}, CellOk F H a c → c.live = true → ∃ o, H a = some o ∧ ∀ xs, o ≠ .tup xs
  | .lst ds, ⟨xs, e, r⟩, _ => ⟨_, e, fun _ q => nomatch q⟩
  | .dik ks ds, ⟨xs, z, e, r⟩, _ => ⟨_, e, fun _ q => nomatch q⟩
  | .dit ks ds, ⟨xs, z, e, r⟩, _ => ⟨_, e, fun _ q => nomatch q⟩
  | .ins C fs, ⟨dx, xs, e, r⟩, _ => ⟨_, e, fun _ q => nomatch q⟩
  | .frz d, r, h => nomatch h
  | .lok _ _, r, h => nomatch h
  | .lokt _ _, r, h => nomatch h
  | .dlf ks ds, ⟨es, e, z, r1, r2, t⟩, _ => ⟨_, e, fun _ q => nomatch q⟩
  | .gone, _, h => nomatch h
theorem Rep.at {F : Fm} {S : Sto} {H : Hp} (R : Rep F S H) {n : Nat} {c : Cell} (h : S[n]? = some c) : ∃ a, F.lm[n]? = some a ∧ CellOk F H a c ∧ (c.live = true → F.G a = none ∧ F.free a) := by
  have h1 := (List.getElem?_eq_some_iff.mp h).1
  have e : F.lm[n]? = some (F.lm[n]'(by rw [R.len]; exact h1)) := List.getElem?_eq_getElem _
  exact ⟨_, e, R.cell n c _ h e⟩
theorem same_new {H : Hp} {p : Addr} {o : HO} (h : H p = none) : Same H (upd H p o) := fun a u e => by
  rw [upd_ne (ne_of_none e h)]
  exact e
theorem same_mono {G H : Hp} (s : Same G H) {p : Addr} {o : HO} (h : G p = none) : Same G (upd H p o) := fun a u e => by
  rw [upd_ne (ne_of_none e h)]
  exact s _ _ e
theorem Same.none {G H : Hp} (s : Same G H) {p : Addr} (h : H p = none) : G p = none := s.free h

/-- a new frozen object -/
abbrev Fm.add (F : Fm) (p : Addr) (o : HO) : Fm := { F with G := upd F.G p o }
theorem Fm.add_le {F : Fm} {p : Addr} {o : HO} (h : F.G p = none) (hb : F.free p) : Le F (F.add p o) :=
  ⟨rfl, rfl, rfl, same_new h, fun a u e => by
    by_cases q : a = p
    · exact .inr (by rw [q]; exact hb)
    · have e2 : upd F.G p o a = some u := e
      rw [upd_ne q] at e2
      exact .inl e2, List.prefix_refl _⟩
theorem Rep.add {F : Fm} {S : Sto} {H : Hp} (R : Rep F S H) {p : Addr} {o : HO} (hp : H p = none) : Rep (F.add p o) S (upd H p o) ∧ Le F (F.add p o) := by
  have gp : F.G p = none := R.g.free hp
  have bp : F.free p := ⟨R.b.free hp, R.p.free hp⟩
  have le := Fm.add_le (F := F) (o := o) gp bp
  refine ⟨⟨fun a u e => ?_, same_mono R.b bp.1, same_mono R.p bp.2, fun a xs e => ?_, R.len, fun n c a h e => ?_, R.inj⟩, le⟩
  · by_cases q : a = p
    · subst q
      have e2 : upd F.G a o a = some u := e
      rw [upd_same] at e2 ⊢
      exact e2
    · have e2 : upd F.G p o a = some u := e
      rw [upd_ne q] at e2 ⊢
      exact R.g _ _ e2
  · show upd F.G p o a = _
    by_cases q : a = p
    · subst q
      rw [upd_same] at e ⊢
      exact e
    · rw [upd_ne q] at e ⊢
      exact R.tup _ _ e
  · obtain ⟨k1, k2⟩ := R.cell n c a h e
    refine ⟨k1.wk le.wk le.pf fun hl => ?_, fun hl => ?_⟩
    · obtain ⟨o', e', _⟩ := k1.some hl
      exact upd_ne (ne_of_none e' hp)
    · obtain ⟨o', e', _⟩ := k1.some hl
      refine ⟨?_, (k2 hl).2⟩
      show upd F.G p o a = none
      rw [upd_ne (ne_of_none e' hp)]
      exact (k2 hl).1
/-- a new object beside all this -/
theorem Rep.beside {F : Fm} {S : Sto} {H : Hp} (R : Rep F S H) {p : Addr} {o : HO} (hp : H p = none) (ht : ∀ xs, o ≠ .tup xs) : Rep F S (upd H p o) := by
  have gp : F.G p = none := R.g.free hp
  have bp : F.B p = none := R.b.free hp
  refine ⟨same_mono R.g gp, same_mono R.b bp, same_mono R.p (R.p.free hp), fun a xs e => ?_, R.len, fun n c a h e => ?_, R.inj⟩
  · by_cases q : a = p
    · subst q
      rw [upd_same] at e
      exact absurd (Option.some.inj e) (ht xs)
    · rw [upd_ne q] at e
      exact R.tup _ _ e
  · obtain ⟨k1, k2⟩ := R.cell n c a h e
    refine ⟨k1.wk (Le.refl F).wk (Le.refl F).pf fun hl => ?_, k2⟩
    obtain ⟨o', e', _⟩ := k1.some hl
    exact upd_ne (ne_of_none e' hp)
/-- a new cell for an object that is beside all this -/
abbrev Fm.cell (F : Fm) (p : Addr) : Fm := { F with lm := F.lm ++ [p] }
theorem Fm.cell_le (F : Fm) (p : Addr) : Le F (F.cell p) := ⟨rfl, rfl, rfl, Same.refl _, fun _ _ h => .inl h, List.prefix_append _ _⟩
theorem get_snoc {α : Type} {l : List α} {x y : α} {n : Nat} (h : (l ++ [x])[n]? = some y) : l[n]? = some y ∨ (n = l.length ∧ y = x) := by
  by_cases q : n < l.length
  · rw [List.getElem?_append_left q] at h
    exact .inl h
  · rw [List.getElem?_append_right (by omega)] at h
    by_cases q2 : n - l.length = 0
    · rw [q2] at h
      exact .inr ⟨by omega, (Option.some.inj h).symm⟩
    · rw [List.getElem?_eq_none (by simp; omega)] at h
      cases h
theorem Rep.cell_new {F : Fm} {S : Sto} {H : Hp} (R : Rep F S H) {p : Addr} {c : Cell} (hc : CellOk (F.cell p) H p c) (gp : F.G p = none) (bp : F.free p)
    (hn : ∀ (n : Nat) (c : Cell), S[n]? = some c → c.live = true → F.lm[n]? ≠ some p) : Rep (F.cell p) (S ++ [c]) H := by
  refine ⟨R.g, R.b, R.p, R.tup, by simp [R.len], fun n c' a h e => ?_, fun n m c1 c2 a h1 h2 l1 l2 e1 e2 => ?_⟩
  · rcases get_snoc h with h | ⟨hn2, hh⟩
    · have hlt := (List.getElem?_eq_some_iff.mp h).1
      have e' : F.lm[n]? = some a := by
        have e0 : (F.lm ++ [p])[n]? = some a := e
        rw [List.getElem?_append_left (by rw [R.len]; exact hlt)] at e0
        exact e0
      obtain ⟨k1, k2⟩ := R.cell n c' a h e'
      exact ⟨k1.wk (F.cell_le p).wk (F.cell_le p).pf fun _ => rfl, k2⟩
    · subst hh
      have e0 : (F.lm ++ [p])[n]? = some a := e
      rw [hn2, ← R.len] at e0
      simp at e0
      subst e0
      exact ⟨hc, fun _ => ⟨gp, bp⟩⟩
  · have r1 : ∀ {n : Nat} {c : Cell}, (S ++ [c])[n]? = some c → True := fun _ => trivial
    have e1' : (F.lm ++ [p])[n]? = some a := e1
    have e2' : (F.lm ++ [p])[m]? = some a := e2
    have old : ∀ {n : Nat} {c' : Cell}, S[n]? = some c' → (F.lm ++ [p])[n]? = some a → F.lm[n]? = some a := fun {n c'} h e0 => by
      rw [List.getElem?_append_left (by rw [R.len]; exact (List.getElem?_eq_some_iff.mp h).1)] at e0
      exact e0
    have new : ∀ {n : Nat}, n = S.length → (F.lm ++ [p])[n]? = some a → a = p := fun {n} h e0 => by
      rw [h, ← R.len] at e0
      simp at e0
      exact e0.symm
    rcases get_snoc h1 with h1 | ⟨h1, hh1⟩
    · rcases get_snoc h2 with h2 | ⟨h2, hh2⟩
      · exact R.inj n m c1 c2 a h1 h2 l1 l2 (old h1 e1') (old h2 e2')
      · have := new h2 e2'
        subst this
        exact absurd (old h1 e1') (hn n c1 h1 l1)
    · rcases get_snoc h2 with h2 | ⟨h2, hh2⟩
      · have := new h1 e1'
        subst this
        exact absurd (old h2 e2') (hn m c2 h2 l2)
      · rw [h1, h2]
theorem Rep.noCell {F : Fm} {S : Sto} {H : Hp} (R : Rep F S H) {p : Addr} (hp : H p = none) : ∀ (n : Nat) (c : Cell), S[n]? = some c → c.live = true → F.lm[n]? ≠ some p := fun n c h l e => by
  obtain ⟨k1, _⟩ := R.cell n c p h e
  obtain ⟨o, e', _⟩ := k1.some l
  rw [hp] at e'
  cases e'
theorem Rep.alloc {F : Fm} {S : Sto} {H : Hp} (R : Rep F S H) {p : Addr} {o : HO} {c : Cell} (hp : H p = none) (ht : ∀ xs, o ≠ .tup xs) (hc : CellOk (F.cell p) (upd H p o) p c) : Rep (F.cell p) (S ++ [c]) (upd H p o) :=
  (R.beside hp ht).cell_new hc (R.g.free hp) ⟨R.b.free hp, R.p.free hp⟩ (R.noCell hp)
/-- a live cell is written -/
theorem Rep.write {F : Fm} {S : Sto} {H : Hp} (R : Rep F S H) {n : Nat} {c c' : Cell} {a : Addr} {o : HO} (h : S[n]? = some c) (l : c.live = true) (e : F.lm[n]? = some a) (ht : ∀ xs, o ≠ .tup xs) (l' : c'.live = true)
    (hc : CellOk F (upd H a o) a c') : Rep F (S.set n c') (upd H a o) := by
  obtain ⟨k1, k2⟩ := R.cell n c a h e
  obtain ⟨ga, ba⟩ := k2 l
  obtain ⟨o0, e0, t0⟩ := k1.some l
  have hlt := (List.getElem?_eq_some_iff.mp h).1
  refine ⟨same_mono R.g ga, same_mono R.b ba.1, same_mono R.p ba.2, fun b xs q => ?_, by simp [R.len], fun m cm b hm em => ?_, fun m1 m2 c1 c2 b h1 h2 l1 l2 e1 e2 => ?_⟩
  · by_cases z : b = a
    · subst z
      rw [upd_same] at q
      exact absurd (Option.some.inj q) (ht xs)
    · rw [upd_ne z] at q
      exact R.tup _ _ q
  · by_cases z : m = n
    · subst z
      rw [List.getElem?_set_self hlt] at hm
      cases hm
      rw [e] at em
      cases em
      exact ⟨hc, fun _ => ⟨ga, ba⟩⟩
    · rw [List.getElem?_set_ne (fun q => z q.symm)] at hm
      obtain ⟨j1, j2⟩ := R.cell m cm b hm em
      refine ⟨j1.wk (Le.refl F).wk (Le.refl F).pf fun lm => ?_, j2⟩
      refine upd_ne fun q => ?_
      subst q
      exact z (R.inj m n cm c b hm h lm l em e)
  · have old : ∀ {m : Nat} {cm : Cell}, (S.set n c')[m]? = some cm → cm.live = true → ∃ cm', S[m]? = some cm' ∧ cm'.live = true := fun {m cm} hm lm => by
      by_cases z : m = n
      · subst z
        exact ⟨c, h, l⟩
      · rw [List.getElem?_set_ne (fun q => z q.symm)] at hm
        exact ⟨cm, hm, lm⟩
    obtain ⟨d1, x1, y1⟩ := old h1 l1
    obtain ⟨d2, x2, y2⟩ := old h2 l2
    exact R.inj m1 m2 d1 d2 b x1 x2 y1 y2 e1 e2
end Dn

namespace Dn
open PySem L2

/-! ### readings by denotations -/
abbrev Ev := List (Option DV)
abbrev DE := Ev → Sto → Option (DV × Sto)
abbrev DA := Ev → Sto → Option (List DV × Sto)
abbrev DG := DV → Ev → Sto → Option (Ev × Sto)
inductive Out where
  | nx (ρ : Ev) (S : Sto)
  | rt (d : DV) (S : Sto)
  | bk (ρ : Ev) (S : Sto)
  | ct (ρ : Ev) (S : Sto)
def Out.S : Out → Sto
  | .nx _ S => S
  | .rt _ S => S
  | .bk _ S => S
  | .ct _ S => S
abbrev DS := Ev → Sto → Option Out
structure RelE (F : Fm) (ρ : Ev) (σ : St) : Prop where
  len : ρ.length = σ.length
  at_ : ∀ (i : Nat) (d : DV), ρ[i]? = some (some d) → ∃ v, σ[i]? = some (some v) ∧ Rel F d v
theorem RelE.wk {F F' : Fm} (w : Wk F F') {ρ : Ev} {σ : St} (r : RelE F ρ σ) : RelE F' ρ σ := ⟨r.len, fun i d e => by
  obtain ⟨v, h1, h2⟩ := r.at_ i d e
  exact ⟨v, h1, Rel.wk w _ _ h2⟩⟩
theorem RelE.le {F F' : Fm} (w : Le F F') {ρ : Ev} {σ : St} (r : RelE F ρ σ) : RelE F' ρ σ := r.wk w.wk
theorem RelE.set {F : Fm} {ρ : Ev} {σ : St} (r : RelE F ρ σ) (i : Nat) {d : DV} {v : V} (h : Rel F d v) : RelE F (ρ.set i (some d)) (σ.set i (some v)) := by
  refine ⟨by simp [r.len], fun j e hj => ?_⟩
  by_cases q : j = i
  · subst q
    have hlt := (List.getElem?_eq_some_iff.mp hj).1
    rw [List.length_set] at hlt
    rw [List.getElem?_set_self hlt] at hj
    cases hj
    exact ⟨v, List.getElem?_set_self (by rw [← r.len]; exact hlt), h⟩
  · rw [List.getElem?_set_ne (fun z => q z.symm)] at hj
    rw [List.getElem?_set_ne (fun z => q z.symm)]
    exact r.at_ j e hj
def PostE (F : Fm) (S : Sto) (d : DV) (Q : VK) : Prop := ∀ F' H' v, Le F F' → Rep F' S H' → Rel F' d v → Q v H'
def PostT (F : Fm) (S : Sto) (b : Bool) (Q : Bool → Hp → Prop) : Prop := ∀ F' H', Le F F' → Rep F' S H' → Q b H'
def PostA (F : Fm) (S : Sto) (ds : List DV) (Q : List V → Hp → Prop) : Prop := ∀ F' H' vs, Le F F' → Rep F' S H' → RelL F' ds vs → Q vs H'
def PostO (F : Fm) (D : Ends) (H : Hp) : Out → Prop
  | .nx ρ _ => ∀ σ, RelE F ρ σ → D.nx σ H
  | .rt d _ => ∀ v, Rel F d v → D.rt v H
  | .bk ρ _ => ∀ σ, RelE F ρ σ → D.bk σ H
  | .ct ρ _ => ∀ σ, RelE F ρ σ → D.ct σ H
def PostS (F : Fm) (o : Out) (D : Ends) : Prop := ∀ F' H', Le F F' → Rep F' o.S H' → PostO F' D H' o
theorem PostE.le {F F' : Fm} {S : Sto} {d : DV} {Q : VK} (h : PostE F S d Q) (w : Le F F') : PostE F' S d Q := fun F2 H2 v w2 => h F2 H2 v (w.trans w2)
theorem PostS.le {F F' : Fm} {o : Out} {D : Ends} (h : PostS F o D) (w : Le F F') : PostS F' o D := fun F2 H2 w2 => h F2 H2 (w.trans w2)
def rdE (K : PySem.W.Frag) (f : DE) : TE := fun σ H Q => ∃ F S ρ d S', F.K = K ∧ Rep F S H ∧ RelE F ρ σ ∧ f ρ S = some (d, S') ∧ PostE F S' d Q
def rdT (K : PySem.W.Frag) (f : DE) : TT := fun σ H Q => ∃ F S ρ b S', F.K = K ∧ Rep F S H ∧ RelE F ρ σ ∧ f ρ S = some (.bl b, S') ∧ PostT F S' b Q
def rdA (K : PySem.W.Frag) (f : DA) : TA := fun σ H Q => ∃ F S ρ ds S', F.K = K ∧ Rep F S H ∧ RelE F ρ σ ∧ f ρ S = some (ds, S') ∧ PostA F S' ds Q
def rdS (K : PySem.W.Frag) (f : DS) : TS := fun D σ H => ∃ F S ρ o, F.K = K ∧ Rep F S H ∧ RelE F ρ σ ∧ f ρ S = some o ∧ PostS F o D
def rdG (K : PySem.W.Frag) (g : DG) : TG := fun v σ H Q => ∃ F S ρ d ρ' S', F.K = K ∧ Rep F S H ∧ RelE F ρ σ ∧ Rel F d v ∧ g d ρ S = some (ρ', S') ∧ ∀ F' H' σ', Le F F' → Rep F' S' H' → RelE F' ρ' σ' → Q σ' H'
structure ED (X : Cx) (e : Expr) (f : DE) : Prop where
  pe : PE X e (rdE X.K f)
structure TD (X : Cx) (e : Expr) (f : DE) : Prop where
  pt : PT X e (rdT X.K f)
structure TDW (X : Cx) (e : Expr) (f : DE) : Prop where
  pw : PW X e (rdT X.K f)
structure AD (X : Cx) (es : List Expr) (f : DA) : Prop where
  pa : PA X es (rdA X.K f)
structure SD (X : Cx) (st : Stmt) (f : DS) : Prop where
  ps : PS X st (rdS X.K f)
structure SDs (X : Cx) (st : List Stmt) (f : DS) : Prop where
  ps : PSs X st (rdS X.K f)
structure GD (X : Cx) (e : Expr) (g : DG) : Prop where
  pg : PG X e (rdG X.K g)
section
variable {X : Cx} {e : Expr}
theorem ED.of {t : TE} {f : DE} (h : PE X e t) (m : ∀ F S H ρ σ d S' Q, F.K = X.K → Rep F S H → RelE F ρ σ → f ρ S = some (d, S') → PostE F S' d Q → t σ H Q) : ED X e f :=
  ⟨⟨fun pins s σ H Q I ⟨F, S, ρ, d, S', hk, R, r, hf, hq⟩ => h.run pins s σ H Q I (m F S H ρ σ d S' Q hk R r hf hq)⟩⟩
theorem TD.of {t : TT} {f : DE} (h : PT X e t) (m : ∀ F S H ρ σ b S' Q, F.K = X.K → Rep F S H → RelE F ρ σ → f ρ S = some (.bl b, S') → PostT F S' b Q → t σ H Q) : TD X e f :=
  ⟨⟨fun pins s σ H Q I ⟨F, S, ρ, d, S', hk, R, r, hf, hq⟩ => h.run pins s σ H Q I (m F S H ρ σ d S' Q hk R r hf hq)⟩⟩
theorem TDW.of {t : TT} {f : DE} (h : PW X e t) (m : ∀ F S H ρ σ b S' Q, F.K = X.K → Rep F S H → RelE F ρ σ → f ρ S = some (.bl b, S') → PostT F S' b Q → t σ H Q) : TDW X e f :=
  ⟨⟨fun whole pins s σ H Q I ⟨F, S, ρ, d, S', hk, R, r, hf, hq⟩ => h.run whole pins s σ H Q I (m F S H ρ σ d S' Q hk R r hf hq)⟩⟩
theorem AD.of {es : List Expr} {t : TA} {f : DA} (h : PA X es t) (m : ∀ F S H ρ σ d S' Q, F.K = X.K → Rep F S H → RelE F ρ σ → f ρ S = some (d, S') → PostA F S' d Q → t σ H Q) : AD X es f :=
  ⟨⟨fun pos pins s σ H Q I ⟨F, S, ρ, d, S', hk, R, r, hf, hq⟩ => h.run pos pins s σ H Q I (m F S H ρ σ d S' Q hk R r hf hq)⟩⟩
theorem SD.of {st : Stmt} {t : TS} {f : DS} (h : PS X st t) (m : ∀ F S H ρ σ o D, F.K = X.K → Rep F S H → RelE F ρ σ → f ρ S = some o → PostS F o D → t D σ H) : SD X st f :=
  ⟨⟨fun pins s σ H D I ⟨F, S, ρ, o, hk, R, r, hf, hq⟩ => h.run pins s σ H D I (m F S H ρ σ o D hk R r hf hq)⟩⟩
theorem SDs.of {st : List Stmt} {t : TS} {f : DS} (h : PSs X st t) (m : ∀ F S H ρ σ o D, F.K = X.K → Rep F S H → RelE F ρ σ → f ρ S = some o → PostS F o D → t D σ H) : SDs X st f :=
  ⟨⟨fun pins s σ H D I ⟨F, S, ρ, o, hk, R, r, hf, hq⟩ => h.run pins s σ H D I (m F S H ρ σ o D hk R r hf hq)⟩⟩
theorem GD.of {t : TG} {g : DG} (h : PG X e t) (m : ∀ F S H ρ σ d v ρ' S' Q, F.K = X.K → Rep F S H → RelE F ρ σ → Rel F d v → g d ρ S = some (ρ', S') → (∀ F' H' σ', Le F F' → Rep F' S' H' → RelE F' ρ' σ' → Q σ' H') → t v σ H Q) : GD X e g :=
  ⟨⟨fun pins s σ H v u Q I rv ⟨F, S, ρ, d, ρ', S', hk, R, r, rd, hf, hq⟩ => h.run pins s σ H v u Q I rv (m F S H ρ σ d v ρ' S' Q hk R r rd hf hq)⟩⟩
end
section
variable {K : PySem.W.Frag} {F : Fm} {S S' S1 : Sto} {H : Hp} {ρ : Ev} {σ : St} {d : DV} {Q : VK}
/-- a part is run: what is behind it -/
theorem rdE.go {f : DE} (hk : F.K = K) (R : Rep F S H) (r : RelE F ρ σ) (hf : f ρ S = some (d, S1)) (k : ∀ F' H' v, Le F F' → F'.K = K → Rep F' S1 H' → RelE F' ρ σ → Rel F' d v → Q v H') : rdE K f σ H Q :=
  ⟨F, S, ρ, d, S1, hk, R, r, hf, fun F' H' v le R' r' => k F' H' v le (le.k.trans hk) R' (r.le le) r'⟩
theorem rdT.go {f : DE} {b : Bool} {Q : Bool → Hp → Prop} (hk : F.K = K) (R : Rep F S H) (r : RelE F ρ σ) (hf : f ρ S = some (.bl b, S1)) (k : ∀ F' H', Le F F' → F'.K = K → Rep F' S1 H' → RelE F' ρ σ → Q b H') : rdT K f σ H Q :=
  ⟨F, S, ρ, b, S1, hk, R, r, hf, fun F' H' le R' => k F' H' le (le.k.trans hk) R' (r.le le)⟩
theorem rdA.go {f : DA} {ds : List DV} {Q : List V → Hp → Prop} (hk : F.K = K) (R : Rep F S H) (r : RelE F ρ σ) (hf : f ρ S = some (ds, S1)) (k : ∀ F' H' vs, Le F F' → F'.K = K → Rep F' S1 H' → RelE F' ρ σ → RelL F' ds vs → Q vs H') : rdA K f σ H Q :=
  ⟨F, S, ρ, ds, S1, hk, R, r, hf, fun F' H' v le R' r' => k F' H' v le (le.k.trans hk) R' (r.le le) r'⟩
end

/-! ### names, constants -/
section
variable {X : Cx} {e a b : Expr} {pos : Pos}
def dVar (i : Nat) : DE := fun ρ S => match ρ[i]? with
  | some (some d) => some (d, S)
  | _ => none
theorem dVar_some {i : Nat} {ρ : Ev} {S : Sto} {d : DV} {S' : Sto} (h : dVar i ρ S = some (d, S')) : ρ[i]? = some (some d) ∧ S' = S := by
  unfold dVar at h
  split at h
  · rename_i d' e
    cases h
    exact ⟨e, rfl⟩
  · cases h
theorem ed_var {i : Nat} (h : PE X e (tVar i)) : ED X e (dVar i) := .of h fun F S H ρ σ d S' Q hk R r hf hq => by
  obtain ⟨h1, rfl⟩ := dVar_some hf
  obtain ⟨v, e1, e2⟩ := r.at_ i d h1
  exact ⟨v, e1, hq F H v (.refl F) R e2⟩
def dC (d : DV) : DE := fun _ S => some (d, S)
theorem ed_c {d : DV} {v : V} (h : PE X e (tC v)) (hr : ∀ F : Fm, Rel F d v) : ED X e (dC d) := .of h fun F S H ρ σ d' S' Q hk R r hf hq => by
  have e : some (d, S) = some (d', S') := hf
  cases e
  exact hq F H v (.refl F) R (hr F)
theorem ed_int {i : Int} {j : Nat} : ED X (.Constant (.int i) j pos) (dC (.int i)) := ed_c pe_int fun _ => rfl
theorem ed_bl {i : Bool} {j : Nat} : ED X (.Constant (.bool i) j pos) (dC (.bl i)) := ed_c pe_bl fun _ => rfl
theorem ed_non {j : Nat} : ED X (.Constant .none j pos) (dC .non) := ed_c pe_non fun _ => rfl
theorem ed_str {i : Str} {j : Nat} : ED X (.Constant (.str i) j pos) (dC (.str i)) := ed_c pe_str fun _ => rfl

/-! ### operators -/
abbrev P1 := DV → Sto → Option (DV × Sto)
abbrev P2 := DV → DV → Sto → Option (DV × Sto)
abbrev PL := List DV → Sto → Option (DV × Sto)
def dUn (p : P1) (f : DE) : DE := fun ρ S => match f ρ S with
  | some (x, S1) => p x S1
  | none => none
def dBin (p : P2) (f g : DE) : DE := fun ρ S => match f ρ S with
  | some (x, S1) => (match g ρ S1 with
    | some (y, S2) => p x y S2
    | none => none)
  | none => none
def Ok2 (K : PySem.W.Frag) (p : P2) (r : R2) : Prop := ∀ F S H x y vx vy d S' Q, F.K = K → Rep F S H → Rel F x vx → Rel F y vy → p x y S = some (d, S') → PostE F S' d Q → r vx vy H Q
def OkL (K : PySem.W.Frag) (p : PL) (r : List V → Hp → VK → Prop) : Prop := ∀ F S H xs vs d S' Q, F.K = K → Rep F S H → RelL F xs vs → p xs S = some (d, S') → PostE F S' d Q → r vs H Q
theorem dBin_some {p : P2} {f g : DE} {ρ : Ev} {S : Sto} {z : DV × Sto} (h : dBin p f g ρ S = some z) : ∃ x S1 y S2, f ρ S = some (x, S1) ∧ g ρ S1 = some (y, S2) ∧ p x y S2 = some z := by
  unfold dBin at h
  split at h
  · split at h
    · exact ⟨_, _, _, _, by assumption, by assumption, h⟩
    · cases h
  · cases h
theorem bin_go {p : P2} {f g : DE} {r : R2} (hp : Ok2 X.K p r) {F : Fm} {S S' : Sto} {H : Hp} {ρ : Ev} {σ : St} {d : DV} {Q : VK} (hk : F.K = X.K) (R : Rep F S H) (rr : RelE F ρ σ) (hf : dBin p f g ρ S = some (d, S')) (hq : PostE F S' d Q) : tOp r (rdE X.K f) (rdE X.K g) σ H Q := by
  obtain ⟨x, S1, y, S2, h1, h2, h3⟩ := dBin_some hf
  exact rdE.go hk R rr h1 fun F1 H1 v le hk1 R1 r1 rx => rdE.go hk1 R1 r1 h2 fun F2 H2 u le2 hk2 R2 r2 ry => hp F2 S2 H2 x y v u d S' Q hk2 R2 (rx.le le2) ry h3 (hq.le (le.trans le2))
theorem ed_bin {op : Operator} {r : R2} {p : P2} {f g : DE} (ho : OpR X (binaryOp op) r) (hp : Ok2 X.K p r) (ha : ED X a f) (hb : ED X b g) : ED X (.BinOp a op b pos) (dBin p f g) :=
  .of (pe_op ho ha.pe hb.pe) fun F S H ρ σ d S' Q hk R rr hf hq => bin_go hp hk R rr hf hq
theorem ed_cmp {op : CmpOp} {r : R2} {p : P2} {f g : DE} (ho : OpR X (compareOp op) r) (hp : Ok2 X.K p r) (ha : ED X a f) (hb : ED X b g) (hm : behindInMarks op b = false) : ED X (.Compare a [op] [b] pos) (dBin p f g) :=
  .of (pe_cmpR ho ha.pe hb.pe hm) fun F S H ρ σ d S' Q hk R rr hf hq => bin_go hp hk R rr hf hq
theorem td_cmp {op : CmpOp} {r : R2} {p : P2} {f g : DE} (ho : OpR X (compareOp op) r) (hp : Ok2 X.K p r) (ha : ED X a f) (hb : ED X b g) (hm : behindInMarks op b = false) : TD X (.Compare a [op] [b] pos) (dBin p f g) :=
  .of (pt_cmpR ho ha.pe hb.pe hm) fun F S H ρ σ d S' Q hk R rr hf hq => bin_go hp hk R rr hf fun F' H' v le R' rv => by
    have e : v = .bl d := rv
    exact ⟨d, e, hq F' H' le R'⟩
/-- a < b < c, b asked once -/
def dChain (p q : P2) (f g h : DE) : DE := fun ρ S => match f ρ S with
  | some (x, S1) => (match g ρ S1 with
    | some (y, S2) => (match p x y S2 with
      | some (.bl true, S3) => (match h ρ S3 with
        | some (z, S4) => q y z S4
        | none => none)
      | some (.bl false, S3) => some (.bl false, S3)
      | _ => none)
    | none => none)
  | none => none

/-! ### and, or, not, if else -/
def dAnd (f g : DE) : DE := fun ρ S => match f ρ S with
  | some (.bl true, S1) => g ρ S1
  | some (.bl false, S1) => some (.bl false, S1)
  | _ => none
def dOr (f g : DE) : DE := fun ρ S => match f ρ S with
  | some (.bl true, S1) => some (.bl true, S1)
  | some (.bl false, S1) => g ρ S1
  | _ => none
def dNot (f : DE) : DE := fun ρ S => match f ρ S with
  | some (.bl c, S1) => some (.bl (!c), S1)
  | _ => none
def dIf (c f g : DE) : DE := fun ρ S => match c ρ S with
  | some (.bl true, S1) => f ρ S1
  | some (.bl false, S1) => g ρ S1
  | _ => none
theorem dAnd_some {f g : DE} {ρ : Ev} {S : Sto} {z : DV × Sto} (h : dAnd f g ρ S = some z) : (∃ S1, f ρ S = some (.bl true, S1) ∧ g ρ S1 = some z) ∨ (∃ S1, f ρ S = some (.bl false, S1) ∧ z = (.bl false, S1)) := by
  unfold dAnd at h
  split at h
  · exact .inl ⟨_, by assumption, h⟩
  · exact .inr ⟨_, by assumption, (Option.some.inj h).symm⟩
  · cases h
theorem dOr_some {f g : DE} {ρ : Ev} {S : Sto} {z : DV × Sto} (h : dOr f g ρ S = some z) : (∃ S1, f ρ S = some (.bl true, S1) ∧ z = (.bl true, S1)) ∨ (∃ S1, f ρ S = some (.bl false, S1) ∧ g ρ S1 = some z) := by
  unfold dOr at h
  split at h
  · exact .inl ⟨_, by assumption, (Option.some.inj h).symm⟩
  · exact .inr ⟨_, by assumption, h⟩
  · cases h
theorem dNot_some {f : DE} {ρ : Ev} {S : Sto} {z : DV × Sto} (h : dNot f ρ S = some z) : ∃ c S1, f ρ S = some (.bl c, S1) ∧ z = (.bl (!c), S1) := by
  unfold dNot at h
  split at h
  · exact ⟨_, _, by assumption, (Option.some.inj h).symm⟩
  · cases h
variable {rest : List Expr} {f g : DE}
theorem td_val (h : ED X e f) (he : ∀ whole, isTrue e X.env whole = (do let v ← whole; standAt e.pos; holding [v] (truthy v)) := by intro _; rfl) : TD X e f :=
  .of (pt_val h.pe he) fun F S H ρ σ b S' Q hk R rr hf hq => rdE.go hk R rr hf fun F' H' v le _ R' _ rv => by
    have e : v = .bl b := rv
    exact ⟨b, e, hq F' H' le R'⟩
theorem TDW.td (h : TDW X e f) : TD X e f := ⟨h.pw.pt⟩
theorem tw_and1 (h : TD X a f) : TDW X (.BoolOp .And [a] pos) f := ⟨pw_and1 h.pt⟩
theorem tw_or1 (h : TD X a f) : TDW X (.BoolOp .Or [a] pos) f := ⟨pw_or1 h.pt⟩
theorem and_go {F : Fm} {S S' : Sto} {H : Hp} {ρ : Ev} {σ : St} {c : Bool} {Q : Bool → Hp → Prop} (hk : F.K = X.K) (R : Rep F S H) (rr : RelE F ρ σ) (hf : dAnd f g ρ S = some (.bl c, S')) (hq : PostT F S' c Q) : tAnd (rdT X.K f) (rdT X.K g) σ H Q := by
  rcases dAnd_some hf with ⟨S1, h1, h2⟩ | ⟨S1, h1, h2⟩
  · refine rdT.go hk R rr h1 fun F1 H1 le hk1 R1 r1 => ?_
    rw [if_pos rfl]
    exact rdT.go hk1 R1 r1 h2 fun F2 H2 le2 hk2 R2 _ => hq F2 H2 (le.trans le2) R2
  · cases h2
    refine rdT.go hk R rr h1 fun F1 H1 le hk1 R1 r1 => ?_
    rw [if_neg Bool.false_ne_true]
    exact hq F1 H1 le R1
theorem or_go {F : Fm} {S S' : Sto} {H : Hp} {ρ : Ev} {σ : St} {c : Bool} {Q : Bool → Hp → Prop} (hk : F.K = X.K) (R : Rep F S H) (rr : RelE F ρ σ) (hf : dOr f g ρ S = some (.bl c, S')) (hq : PostT F S' c Q) : tOr (rdT X.K f) (rdT X.K g) σ H Q := by
  rcases dOr_some hf with ⟨S1, h1, h2⟩ | ⟨S1, h1, h2⟩
  · cases h2
    refine rdT.go hk R rr h1 fun F1 H1 le hk1 R1 r1 => ?_
    rw [if_pos rfl]
    exact hq F1 H1 le R1
  · refine rdT.go hk R rr h1 fun F1 H1 le hk1 R1 r1 => ?_
    rw [if_neg Bool.false_ne_true]
    exact rdT.go hk1 R1 r1 h2 fun F2 H2 le2 hk2 R2 _ => hq F2 H2 (le.trans le2) R2
theorem tw_and (ha : TD X a f) (hb : TDW X (.BoolOp .And (b :: rest) pos) g) : TDW X (.BoolOp .And (a :: b :: rest) pos) (dAnd f g) :=
  .of (pw_and ha.pt hb.pw) fun F S H ρ σ c S' Q hk R rr hf hq => and_go hk R rr hf hq
theorem tw_or (ha : TD X a f) (hb : TDW X (.BoolOp .Or (b :: rest) pos) g) : TDW X (.BoolOp .Or (a :: b :: rest) pos) (dOr f g) :=
  .of (pw_or ha.pt hb.pw) fun F S H ρ σ c S' Q hk R rr hf hq => or_go hk R rr hf hq
theorem td_not (ha : TD X a f) : TD X (.UnaryOp .Not a pos) (dNot f) :=
  .of (pt_not ha.pt) fun F S H ρ σ c S' Q hk R rr hf hq => by
    obtain ⟨c', S1, h1, h2⟩ := dNot_some hf
    cases h2
    exact rdT.go hk R rr h1 fun F1 H1 le hk1 R1 r1 => hq F1 H1 le R1
theorem ed_one {op : BoolOp} (h : ED X a f) : ED X (.BoolOp op [a] pos) f := ⟨pe_one h.pe⟩
theorem ed_and (ha : ED X a f) (hb : ED X (.BoolOp .And (b :: rest) pos) g) : ED X (.BoolOp .And (a :: b :: rest) pos) (dAnd f g) :=
  .of (pe_and ha.pe hb.pe) fun F S H ρ σ d S' Q hk R rr hf hq => by
    rcases dAnd_some hf with ⟨S1, h1, h2⟩ | ⟨S1, h1, h2⟩
    · refine rdE.go hk R rr h1 fun F1 H1 v le hk1 R1 r1 rv => ⟨true, rv, ?_⟩
      rw [if_pos rfl]
      exact rdE.go hk1 R1 r1 h2 fun F2 H2 v le2 hk2 R2 _ rv => hq F2 H2 v (le.trans le2) R2 rv
    · cases h2
      refine rdE.go hk R rr h1 fun F1 H1 v le hk1 R1 r1 rv => ⟨false, rv, ?_⟩
      rw [if_neg Bool.false_ne_true]
      exact hq F1 H1 _ le R1 rfl
theorem ed_not (ha : ED X a f) : ED X (.UnaryOp .Not a pos) (dNot f) :=
  .of (pe_not ha.pe) fun F S H ρ σ d S' Q hk R rr hf hq => by
    obtain ⟨c', S1, h1, h2⟩ := dNot_some hf
    cases h2
    exact rdE.go hk R rr h1 fun F1 H1 v le hk1 R1 r1 rv => ⟨c', rv, hq F1 H1 _ le R1 rfl⟩
/-! ### argument lists -/
def aNil : DA := fun _ S => some ([], S)
def aCons (f : DE) (g : DA) : DA := fun ρ S => match f ρ S with
  | some (x, S1) => (match g ρ S1 with
    | some (xs, S2) => some (x :: xs, S2)
    | none => none)
  | none => none
theorem aCons_some {f : DE} {g : DA} {ρ : Ev} {S : Sto} {z : List DV × Sto} (h : aCons f g ρ S = some z) : ∃ x S1 xs S2, f ρ S = some (x, S1) ∧ g ρ S1 = some (xs, S2) ∧ z = (x :: xs, S2) := by
  unfold aCons at h
  split at h
  · split at h
    · exact ⟨_, _, _, _, by assumption, by assumption, (Option.some.inj h).symm⟩
    · cases h
  · cases h
theorem ad_nil : AD X [] aNil := .of pa_nil fun F S H ρ σ d S' Q hk R rr hf hq => by
  cases (show some (([] : List DV), S) = some (d, S') from hf)
  exact hq F H [] (.refl F) R rfl
theorem ad_cons {es : List Expr} {g : DA} (ha : ED X e f) (hr : AD X es g) (hs : starEach (e :: es) X.env = (false, eval e X.env) :: starEach es X.env := by rfl) : AD X (e :: es) (aCons f g) :=
  .of (pa_cons ha.pe hr.pa hs) fun F S H ρ σ d S' Q hk R rr hf hq => by
    obtain ⟨x, S1, xs, S2, h1, h2, h3⟩ := aCons_some hf
    cases h3
    exact rdE.go hk R rr h1 fun F1 H1 v le hk1 R1 r1 rx => rdA.go hk1 R1 r1 h2 fun F2 H2 vs le2 hk2 R2 r2 ry => hq F2 H2 (v :: vs) (le.trans le2) R2 (.cons (rx.le le2) ry)
def dPrim (p : PL) (f : DA) : DE := fun ρ S => match f ρ S with
  | some (xs, S1) => p xs S1
  | none => none
theorem dPrim_some {p : PL} {f : DA} {ρ : Ev} {S : Sto} {z : DV × Sto} (h : dPrim p f ρ S = some z) : ∃ x S1, f ρ S = some (x, S1) ∧ p x S1 = some z := by
  unfold dPrim at h
  split at h
  · exact ⟨_, _, by assumption, h⟩
  · cases h
theorem prim_go {p : PL} {f : DA} {r : List V → Hp → VK → Prop} (hp : OkL X.K p r) {F : Fm} {S S' : Sto} {H : Hp} {ρ : Ev} {σ : St} {d : DV} {Q : VK} (hk : F.K = X.K) (R : Rep F S H) (rr : RelE F ρ σ) (hf : dPrim p f ρ S = some (d, S')) (hq : PostE F S' d Q) : rdA X.K f σ H fun vs H1 => r vs H1 Q := by
  obtain ⟨x, S1, h1, h2⟩ := dPrim_some hf
  exact rdA.go hk R rr h1 fun F1 H1 v le hk1 R1 r1 rx => hp F1 S1 H1 x v d S' Q hk1 R1 rx h2 (hq.le le)
/-- anything that asks an argument list, then r -/
theorem ed_prim {es : List Expr} {r : List V → Hp → VK → Prop} {p : PL} {fa : DA} (hpe : ∀ {t : TA}, PA X es t → PE X e (tCB r t)) (hp : OkL X.K p r) (ha : AD X es fa) : ED X e (dPrim p fa) :=
  .of (hpe ha.pa) fun F S H ρ σ d S' Q hk R rr hf hq => prim_go hp hk R rr hf hq

/-! ### tuples and lists written -/
def pTup : PL := fun xs S => if xs.length ≤ sizeLine then some (.tup xs, S) else none
def pLst : PL := fun xs S => if xs.length ≤ sizeLine then some (.lst .own xs, S) else none
def pLstM : PL := fun xs S => if xs.length ≤ sizeLine then some (.loc S.length, S ++ [.lst xs]) else none
theorem of_ite {α : Type} {c : Prop} [Decidable c] {x : Option α} {z : α} (h : (if c then x else none) = some z) : c ∧ x = some z := by
  split at h
  · exact ⟨by assumption, h⟩
  · cases h
theorem new_tup {F : Fm} {S : Sto} {H : Hp} {Q : VK} {ds : List DV} {vs : List V} (R : Rep F S H) (r : RelL F ds vs) (hq : PostE F S (.tup ds) Q) : ∀ p, H p = none → Q (.ref p) (upd H p (.tup vs)) := fun p hp => by
  obtain ⟨R', le⟩ := R.add (o := .tup vs) hp
  exact hq _ _ _ le R' ⟨p, vs, rfl, upd_same, r.le le⟩
theorem new_lst {F : Fm} {S : Sto} {H : Hp} {Q : VK} {ds : List DV} {vs : List V} (R : Rep F S H) (r : RelL F ds vs) (hq : PostE F S (.lst .own ds) Q) : ∀ p, H p = none → Q (.ref p) (upd H p (.lst vs)) := fun p hp => by
  obtain ⟨R', le⟩ := R.add (o := .lst vs) hp
  exact hq _ _ _ le R' ⟨p, vs, rfl, upd_same, r.le le⟩
theorem get_len {α : Type} (l : List α) (x : α) : (l ++ [x])[l.length]? = some x := by
  rw [List.getElem?_append_right (Nat.le_refl _), Nat.sub_self]
  rfl
theorem new_lstM {F : Fm} {S : Sto} {H : Hp} {Q : VK} {ds : List DV} {vs : List V} (R : Rep F S H) (r : RelL F ds vs) (hq : PostE F (S ++ [.lst ds]) (.loc S.length) Q) : ∀ p, H p = none → Q (.ref p) (upd H p (.lst vs)) := fun p hp => by
  have R' := R.alloc (o := .lst vs) (c := .lst ds) hp (fun _ q => nomatch q) ⟨vs, upd_same, r.le (F.cell_le p)⟩
  exact hq _ _ _ (F.cell_le p) R' ⟨p, by rw [← R.len]; exact get_len _ _, rfl⟩
theorem ed_tup {es : List Expr} {fa : DA} {x1} (ha : AD X es fa) : ED X (.Tuple es x1 pos) (dPrim pTup fa) :=
  .of (pe_tup ha.pa) fun F S H ρ σ d S' Q hk R rr hf hq => prim_go (r := fun xs H1 Q => xs.length ≤ sizeLine ∧ ∀ p, H1 p = none → Q (.ref p) (upd H1 p (.tup xs))) (fun F S H xs vs d S' Q hk R rl hp hq => by
    obtain ⟨h1, h2⟩ := of_ite hp
    cases h2
    exact ⟨by rw [← rl.length]; exact h1, new_tup R rl hq⟩) hk R rr hf hq
theorem ed_lst {es : List Expr} {fa : DA} (ha : AD X es fa) : ED X (.List es pos) (dPrim pLst fa) :=
  .of (pe_lst ha.pa) fun F S H ρ σ d S' Q hk R rr hf hq => prim_go (r := fun xs H1 Q => xs.length ≤ sizeLine ∧ ∀ p, H1 p = none → Q (.ref p) (upd H1 p (.lst xs))) (fun F S H xs vs d S' Q hk R rl hp hq => by
    obtain ⟨h1, h2⟩ := of_ite hp
    cases h2
    exact ⟨by rw [← rl.length]; exact h1, new_lst R rl hq⟩) hk R rr hf hq
theorem ed_lstM {es : List Expr} {fa : DA} (ha : AD X es fa) : ED X (.List es pos) (dPrim pLstM fa) :=
  .of (pe_lst ha.pa) fun F S H ρ σ d S' Q hk R rr hf hq => prim_go (r := fun xs H1 Q => xs.length ≤ sizeLine ∧ ∀ p, H1 p = none → Q (.ref p) (upd H1 p (.lst xs))) (fun F S H xs vs d S' Q hk R rl hp hq => by
    obtain ⟨h1, h2⟩ := of_ite hp
    cases h2
    exact ⟨by rw [← rl.length]; exact h1, new_lstM R rl hq⟩) hk R rr hf hq

/-! ### statements -/
variable {st : Stmt} {sts : List Stmt}
def dNext : DS := fun ρ S => some (.nx ρ S)
def dSeq (f g : DS) : DS := fun ρ S => match f ρ S with
  | some (.nx ρ' S') => g ρ' S'
  | o => o
theorem sds_nil : SDs X [] dNext := .of pss_nil fun F S H ρ σ o D hk R rr hf hq => by
  cases (show some (Out.nx ρ S) = some o from hf)
  exact hq F H (.refl F) R σ rr
theorem seq_go {f g : DS} {F : Fm} {S : Sto} {H : Hp} {ρ : Ev} {σ : St} {o : Out} {D : Ends} {K : PySem.W.Frag} (hk : F.K = K) (R : Rep F S H) (rr : RelE F ρ σ) (hf : dSeq f g ρ S = some o) (hq : PostS F o D) : tSeq (rdS K f) (rdS K g) D σ H := by
  unfold dSeq at hf
  split at hf
  · rename_i ρ' S' h1
    exact ⟨F, S, ρ, _, hk, R, rr, h1, fun F' H' le R' σ' r' => ⟨F', S', ρ', o, le.k.trans hk, R', r', hf, hq.le le⟩⟩
  · rename_i h1
    refine ⟨F, S, ρ, o, hk, R, rr, hf, fun F' H' le R' => ?_⟩
    have := hq F' H' le R'
    cases o with
    | nx ρ' S' => exact absurd hf (h1 ρ' S')
    | rt d S' => exact this
    | bk ρ' S' => exact this
    | ct ρ' S' => exact this
theorem sds_cons {f g : DS} (h : SD X st f) (hr : SDs X sts g) : SDs X (st :: sts) (dSeq f g) :=
  .of (pss_cons h.ps hr.ps) fun F S H ρ σ o D hk R rr hf hq => seq_go hk R rr hf hq
theorem sds_one {f : DS} (h : SD X st f) : SDs X [st] f := ⟨pss_one h.ps⟩
def dBreak : DS := fun ρ S => some (.bk ρ S)
def dCont : DS := fun ρ S => some (.ct ρ S)
def dExpr (f : DE) : DS := fun ρ S => match f ρ S with
  | some (_, S') => some (.nx ρ S')
  | none => none
theorem sd_expr (h : ED X e f) (hs : swapsWith e none pos.line X.env = pure false := by rfl) : SD X (.Expr e pos) (dExpr f) :=
  .of (ps_expr h.pe hs) fun F S H ρ σ o D hk R rr hf hq => by
    unfold dExpr at hf
    split at hf
    · rename_i d S' h1
      cases hf
      exact rdE.go hk R rr h1 fun F1 H1 v le hk1 R1 r1 rv => hq F1 H1 le R1 σ r1
    · cases hf
def dRet (f : DE) : DS := fun ρ S => match f ρ S with
  | some (d, S') => some (.rt d S')
  | none => none
theorem sd_ret (h : ED X e f) : SD X (.Return (some e) pos) (dRet f) :=
  .of (ps_ret h.pe) fun F S H ρ σ o D hk R rr hf hq => by
    unfold dRet at hf
    split at hf
    · rename_i d S' h1
      cases hf
      exact rdE.go hk R rr h1 fun F1 H1 v le hk1 R1 r1 rv => hq F1 H1 le R1 v rv
    · cases hf
def dRetN : DS := fun _ S => some (.rt .non S)
def dIfS (c : DE) (f g : DS) : DS := fun ρ S => match c ρ S with
  | some (.bl true, S1) => f ρ S1
  | some (.bl false, S1) => g ρ S1
  | _ => none
theorem dIfS_some {c : DE} {f g : DS} {ρ : Ev} {S : Sto} {z : Out} (h : dIfS c f g ρ S = some z) : (∃ S1, c ρ S = some (.bl true, S1) ∧ f ρ S1 = some z) ∨ (∃ S1, c ρ S = some (.bl false, S1) ∧ g ρ S1 = some z) := by
  unfold dIfS at h
  split at h
  · exact .inl ⟨_, by assumption, h⟩
  · exact .inr ⟨_, by assumption, h⟩
  · cases h
theorem rdS.go {f : DS} {F : Fm} {S : Sto} {H : Hp} {ρ : Ev} {σ : St} {o : Out} {D : Ends} {K : PySem.W.Frag} (hk : F.K = K) (R : Rep F S H) (rr : RelE F ρ σ) (hf : f ρ S = some o) (hq : PostS F o D) : rdS K f D σ H := ⟨F, S, ρ, o, hk, R, rr, hf, hq⟩
theorem sd_if {c : Expr} {ss ts : List Stmt} {hc : DE} {f g : DS} (h1 : TD X c hc) (h2 : SDs X ss f) (h3 : SDs X ts g) : SD X (.If c ss ts pos) (dIfS hc f g) :=
  .of (ps_if h1.pt h2.ps h3.ps) fun F S H ρ σ o D hk R rr hf hq => by
    rcases dIfS_some hf with ⟨S1, h1, h2⟩ | ⟨S1, h1, h2⟩
    · refine rdT.go hk R rr h1 fun F1 H1 le hk1 R1 r1 => ?_
      rw [if_pos rfl]
      exact rdS.go hk1 R1 r1 h2 (hq.le le)
    · refine rdT.go hk R rr h1 fun F1 H1 le hk1 R1 r1 => ?_
      rw [if_neg Bool.false_ne_true]
      exact rdS.go hk1 R1 r1 h2 (hq.le le)

/-! ### targets -/
def gSet (i : Nat) : DG := fun d ρ S => some (ρ.set i (some d), S)
theorem gd_name {i : Nat} (h : PG X e (gName i)) : GD X e (gSet i) := .of h fun F S H ρ σ d v ρ' S' Q hk R rr rv hf hq => by
  cases (show some (ρ.set i (some d), S) = some (ρ', S') from hf)
  exact hq F H _ (.refl F) R (rr.set i rv)
abbrev DGs := List DV → Ev → Sto → Option (Ev × Sto)
def rdGs (K : PySem.W.Frag) (g : DGs) : TGs := fun vs σ H Q => ∃ F S ρ ds ρ' S', F.K = K ∧ Rep F S H ∧ RelE F ρ σ ∧ RelL F ds vs ∧ g ds ρ S = some (ρ', S') ∧ ∀ F' H' σ', Le F F' → Rep F' S' H' → RelE F' ρ' σ' → Q σ' H'
structure GDs (X : Cx) (es : List Expr) (g : DGs) : Prop where
  pg : PGs X es (rdGs X.K g)
theorem GDs.of {es : List Expr} {t : TGs} {g : DGs} (h : PGs X es t) (m : ∀ F S H ρ σ d v ρ' S' Q, F.K = X.K → Rep F S H → RelE F ρ σ → RelL F d v → g d ρ S = some (ρ', S') → (∀ F' H' σ', Le F F' → Rep F' S' H' → RelE F' ρ' σ' → Q σ' H') → t v σ H Q) : GDs X es g :=
  ⟨⟨fun pins s σ H v u Q I rv ⟨F, S, ρ, d, ρ', S', hk, R, r, rd, hf, hq⟩ => h.run pins s σ H v u Q I rv (m F S H ρ σ d v ρ' S' Q hk R r rd hf hq)⟩⟩
def gsNil : DGs := fun ds ρ S => match ds with
  | [] => some (ρ, S)
  | _ => none
def gsCons (g : DG) (h : DGs) : DGs := fun ds ρ S => match ds with
  | d :: r => (match g d ρ S with
    | some (ρ', S') => h r ρ' S'
    | none => none)
  | [] => none
theorem gds_nil : GDs X [] gsNil := .of pgs_nil fun F S H ρ σ d v ρ' S' Q hk R rr rv hf hq => by
  unfold gsNil at hf
  split at hf
  · cases hf
    exact ⟨rv.nil, hq F H σ (.refl F) R rr⟩
  · cases hf
theorem gds_cons {es : List Expr} {g : DG} {h : DGs} {t : TG} {u : TGs} (h1 : GD X e g) (h2 : GDs X es h) (hp : PGs X (e :: es) (gCons (rdG X.K g) (rdGs X.K h))) : GDs X (e :: es) (gsCons g h) :=
  .of hp fun F S H ρ σ d v ρ' S' Q hk R rr rv hf hq => by
    unfold gsCons at hf
    split at hf
    · rename_i d0 r
      obtain ⟨x, vr, rfl, rx, rl⟩ := rv
      split at hf
      · rename_i ρ1 S1 h1
        exact ⟨x, vr, rfl, F, S, ρ, d0, ρ1, S1, hk, R, rr, rx, h1, fun F1 H1 σ1 le R1 r1 => ⟨F1, S1, ρ1, r, ρ', S', le.k.trans hk, R1, r1, rl.le le, hf, fun F2 H2 σ2 le2 => hq F2 H2 σ2 (le.trans le2)⟩⟩
      · cases hf
    · cases hf
def gTupD (n : Nat) (h : DGs) : DG := fun d ρ S => match d with
  | .tup ds => if ds.length = n then h ds ρ S else none
  | _ => none
theorem gd_tup {n : Nat} {es : List Expr} {h : DGs} (h2 : GDs X es h) (hp : PG X e (gTup X.K n (rdGs X.K h))) : GD X e (gTupD n h) :=
  .of hp fun F S H ρ σ d v ρ' S' Q hk R rr rv hf hq => by
    unfold gTupD at hf
    split at hf
    · rename_i ds
      obtain ⟨hn, hf⟩ := of_ite hf
      obtain ⟨a, xs, rfl, hs, rl⟩ := rv
      exact ⟨a, xs, rfl, SqT.of (R.g _ _ hs), by rw [← rl.length]; exact hn, F, S, ρ, ds, ρ', S', hk, R, rr, rl, hf, hq⟩
    · cases hf
def dAsg (f : DE) (g : DG) : DS := fun ρ S => match f ρ S with
  | some (d, S1) => (match g d ρ S1 with
    | some (ρ', S2) => some (.nx ρ' S2)
    | none => none)
  | none => none
theorem asg_go {g : DG} {F : Fm} {S : Sto} {H : Hp} {ρ : Ev} {σ : St} {o : Out} {D : Ends} {K : PySem.W.Frag} (hk : F.K = K) (R : Rep F S H) (rr : RelE F ρ σ) (hf : dAsg f g ρ S = some o) (hq : PostS F o D) : tAsg (rdE K f) (rdG K g) D σ H := by
  unfold dAsg at hf
  split at hf
  · rename_i d S1 h1
    split at hf
    · rename_i ρ' S2 h2
      cases hf
      exact rdE.go hk R rr h1 fun F1 H1 v le hk1 R1 r1 rv => ⟨F1, S1, ρ, d, ρ', S2, hk1, R1, r1, rv, h2, fun F2 H2 σ2 le2 R2 r2 => hq F2 H2 (le.trans le2) R2 σ2 r2⟩
    · cases hf
  · cases hf
theorem sd_asg {g : DG} (h : PS X st (tAsg (rdE X.K f) (rdG X.K g))) : SD X st (dAsg f g) := .of h fun F S H ρ σ o D hk R rr hf hq => asg_go hk R rr hf hq
def dSet (i : Nat) (f : DE) : DS := fun ρ S => match f ρ S with
  | some (d, S1) => some (.nx (ρ.set i (some d)) S1)
  | none => none
theorem sd_set {i : Nat} (h : PS X st (tAsg (rdE X.K f) (gName i))) : SD X st (dSet i f) := .of h fun F S H ρ σ o D hk R rr hf hq => by
  unfold dSet at hf
  split at hf
  · rename_i d S1 h1
    cases hf
    exact rdE.go hk R rr h1 fun F1 H1 v le hk1 R1 r1 rv => hq F1 H1 le R1 _ (r1.set i rv)
  · cases hf

/-! ### loops -/
abbrev DI := Ev → Sto → Option (List DV × Sto)
def Walks (J : It) (F0 : Fm) (ds : List DV) : Prop := ∀ (i : Nat) F S H, Wk F0 F → PF F0 F → Rep F S H → (i = ds.length → J.stop i H) ∧ ∀ d, ds[i]? = some d → J.go i H ∧ ∀ x H', J.yld i H x H' → ∃ F', Le F F' ∧ Rep F' S H' ∧ Rel F' d x
def rdI (K : PySem.W.Frag) (f : DI) : TI := fun σ H R => ∃ F S ρ ds S', F.K = K ∧ Rep F S H ∧ RelE F ρ σ ∧ f ρ S = some (ds, S') ∧ ∀ J F' H', Le F F' → Rep F' S' H' → Walks J F' ds → R J H'
structure ID (X : Cx) (tg iter : Expr) (f : DI) : Prop where
  pi : PI X tg iter (rdI X.K f)
theorem ID.of {tg : Expr} {t : TI} {f : DI} (h : PI X tg e t) (m : ∀ F S H ρ σ ds S' Q, F.K = X.K → Rep F S H → RelE F ρ σ → f ρ S = some (ds, S') → (∀ J F' H', Le F F' → Rep F' S' H' → Walks J F' ds → Q J H') → t σ H Q) : ID X tg e f :=
  ⟨⟨fun pins s σ H Q I ⟨F, S, ρ, d, S', hk, R, r, hf, hq⟩ => h.run pins s σ H Q I (m F S H ρ σ d S' Q hk R r hf hq)⟩⟩
def forL (g : DG) (body : DS) : List DV → DS
  | [] => fun ρ S => some (.nx ρ S)
  | d :: ds => fun ρ S => match g d ρ S with
    | some (ρ1, S1) => (match body ρ1 S1 with
      | some (.nx ρ2 S2) => forL g body ds ρ2 S2
      | some (.ct ρ2 S2) => forL g body ds ρ2 S2
      | some (.bk ρ2 S2) => some (.nx ρ2 S2)
      | some (.rt v S2) => some (.rt v S2)
      | none => none)
    | none => none
def dFor (it : DI) (g : DG) (body : DS) : DS := fun ρ S => match it ρ S with
  | some (ds, S1) => forL g body ds ρ S1
  | none => none
theorem for_go {it : DI} {g : DG} {body : DS} {F : Fm} {S : Sto} {H : Hp} {ρ : Ev} {σ : St} {o : Out} {D : Ends} {K : PySem.W.Frag} (hk : F.K = K) (R : Rep F S H) (rr : RelE F ρ σ) (hf : dFor it g body ρ S = some o) (hq : PostS F o D) : tFor (rdI K it) (rdG K g) (rdS K body) D σ H := by
  unfold dFor at hf
  split at hf
  · rename_i ds S1 h1
    refine ⟨F, S, ρ, ds, S1, hk, R, rr, h1, fun J F1 H1 le1 R1 wk => ?_⟩
    refine ⟨fun i m σ H => i ≤ ds.length ∧ m = ds.length - i ∧ ∃ F' S' ρ', Le F1 F' ∧ Rep F' S' H ∧ RelE F' ρ' σ ∧ forL g body (ds.drop i) ρ' S' = some o, ⟨ds.length, Nat.zero_le _, rfl, F1, S1, ρ, .refl F1, R1, rr.le le1, by rw [List.drop_zero]; exact hf⟩, ?_⟩
    rintro i m σ H ⟨hi, rfl, F', S', ρ', le', R', r', hf'⟩
    obtain ⟨w1, w2⟩ := wk i F' S' H le'.wk le'.pf R'
    by_cases hlt : i < ds.length
    · refine .inr ?_
      have hd : ds[i]? = some ds[i] := List.getElem?_eq_getElem hlt
      obtain ⟨g1, g2⟩ := w2 _ hd
      rw [List.drop_eq_getElem_cons hlt] at hf'
      unfold forL at hf'
      refine ⟨g1, fun σ' H' => ∃ m', m' < ds.length - i ∧ (i + 1 ≤ ds.length ∧ m' = ds.length - (i + 1) ∧ ∃ F' S' ρ', Le F1 F' ∧ Rep F' S' H' ∧ RelE F' ρ' σ' ∧ forL g body (ds.drop (i + 1)) ρ' S' = some o), fun _ _ z => z, fun x H2 y => ?_⟩
      obtain ⟨F2, le2, R2, rx⟩ := g2 x H2 y
      split at hf'
      · rename_i ρ1 S3 hg
        refine ⟨F2, S', ρ', _, ρ1, S3, le2.k.trans (le'.k.trans (le1.k.trans hk)), R2, r'.le le2, rx, hg, fun F3 H3 σ3 le3 R3 r3 => ?_⟩
        have le03 : Le F1 F3 := (le'.trans le2).trans le3
        split at hf'
        · rename_i ρ2 S2 hb
          exact rdS.go (le3.k.trans (le2.k.trans (le'.k.trans (le1.k.trans hk)))) R3 r3 hb fun F4 H4 le4 R4 σ4 r4 => ⟨_, by omega, hlt, rfl, F4, S2, ρ2, le03.trans le4, R4, r4, hf'⟩
        · rename_i ρ2 S2 hb
          exact rdS.go (le3.k.trans (le2.k.trans (le'.k.trans (le1.k.trans hk)))) R3 r3 hb fun F4 H4 le4 R4 σ4 r4 => ⟨_, by omega, hlt, rfl, F4, S2, ρ2, le03.trans le4, R4, r4, hf'⟩
        · rename_i ρ2 S2 hb
          cases hf'
          exact rdS.go (le3.k.trans (le2.k.trans (le'.k.trans (le1.k.trans hk)))) R3 r3 hb fun F4 H4 le4 R4 σ4 r4 => hq F4 H4 (le1.trans (le03.trans le4)) R4 σ4 r4
        · rename_i v S2 hb
          cases hf'
          exact rdS.go (le3.k.trans (le2.k.trans (le'.k.trans (le1.k.trans hk)))) R3 r3 hb fun F4 H4 le4 R4 v rv => hq F4 H4 (le1.trans (le03.trans le4)) R4 v rv
        · cases hf'
      · cases hf'
    · have e : i = ds.length := by omega
      subst e
      rw [List.drop_length] at hf'
      cases (show some (Out.nx ρ' S') = some o from hf')
      exact .inl ⟨w1 rfl, hq F' H (le1.trans le') R' σ r'⟩
  · cases hf
theorem sd_for {it : DI} {g : DG} {body : DS} (h : PS X st (tFor (rdI X.K it) (rdG X.K g) (rdS X.K body))) : SD X st (dFor it g body) := .of h fun F S H ρ σ o D hk R rr hf hq => for_go hk R rr hf hq
end
end Dn

namespace Dn
open PySem PySem.Spec PyProof.Rows L2

/-! ### copies: cells to values -/
mutual
def mapD (bor : Bool) (h : Nat → Option DV) : DV → Option DV
  | .loc n => h n
  | .tup ds => match mapDL bor h ds with
    | some es => some (.tup es)
    | none => none
  | .tupx ds => match mapDL bor h ds with
    | some es => some (.tupx es)
    | none => none
  | .lst k ds => if k = .bor ∧ bor = false then none else match mapDL bor h ds with
    | some es => some (.lst k es)
    | none => none
  | .dik k ks ds => if k ≠ .own ∧ bor = false then none else match mapDL bor h ds with
    | some es => some (.dik k ks es)
    | none => none
  | .dit k ks ds => if k ≠ .own ∧ bor = false then none else match mapDL bor h ds with
    | some es => some (.dit k ks es)
    | none => none
  | .non => some .non
  | .bl b => some (.bl b)
  | .int i => some (.int i)
  | .str s => some (.str s)
def mapDL (bor : Bool) (h : Nat → Option DV) : List DV → Option (List DV)
  | [] => some []
  | d :: ds => match mapD bor h d with
    | some e => (match mapDL bor h ds with
      | some es => some (e :: es)
      | none => none)
    | none => none
end
def bk (bor : Bool) : LK := if bor then .bor else .own
def cpN (bor : Bool) : Nat → Sto → Nat → Option DV
  | 0, _, _ => none
  | k + 1, S, n => match S[n]? with
    | some (.lst ds) => (match mapDL bor (cpN bor k S) ds with
      | some es => some (.lst (bk bor) es)
      | none => none)
    | some (.dik ks ds) => (match mapDL bor (cpN bor k S) ds with
      | some es => some (.dik (bk bor) ks es)
      | none => none)
    | some (.dit ks ds) => (match mapDL bor (cpN bor k S) ds with
      | some es => some (.dit (bk bor) ks es)
      | none => none)
    | some (.frz d) => mapD bor (cpN bor k S) d
    | _ => none
/-- as a value: borrowed (bor), or frozen -/
def cpD (bor : Bool) (S : Sto) (d : DV) : Option DV := mapD bor (cpN bor (S.length + 1) S) d
def cpL (bor : Bool) (S : Sto) (ds : List DV) : Option (List DV) := mapDL bor (cpN bor (S.length + 1) S) ds

structure CpTo (bor : Bool) (F F2 : Fm) : Prop where
  k : F2.K = F.K
  g : Same F.G F2.G
  b : bor = true → Same F.B F2.B
mutual
theorem mapD_rel {bor : Bool} {h : Nat → Option DV} {F F2 : Fm} (c : CpTo bor F F2) (hh : ∀ n d a, h n = some d → F.lm[n]? = some a → Rel F2 d (.ref a)) : ∀ (d d' : DV) (v : V), mapD bor h d = some d' → Rel F d v → Rel F2 d' v
  | .loc n, d', v, e, r => by
    obtain ⟨a, h1, rfl⟩ := r
    exact hh n d' a e h1
  | .tup ds, d', v, e, r => by
    obtain ⟨a, xs, rfl, hs, hl⟩ := r
    unfold mapD at e
    split at e
    · rename_i es he
      cases e
      exact ⟨a, xs, rfl, c.g _ _ hs, mapDL_rel c hh ds es xs he hl⟩
    · cases e
  | .tupx ds, d', v, e, r => by
    obtain ⟨a, xs, rfl, hs, hl⟩ := r
    unfold mapD at e
    split at e
    · rename_i es he
      cases e
      exact ⟨a, xs, rfl, by rw [c.k]; exact sqT_same c.g hs, mapDL_rel c hh ds es xs he hl⟩
    · cases e
  | .lst k ds, d', v, e, r => by
    unfold mapD at e
    split at e
    · cases e
    · rename_i hn
      split at e
      · rename_i es he
        cases e
        cases k with
        | own =>
          obtain ⟨a, xs, rfl, hs, hl⟩ := r
          exact ⟨a, xs, rfl, c.g _ _ hs, mapDL_rel c hh ds es xs he hl⟩
        | bor =>
          obtain ⟨a, xs, rfl, hs, hl⟩ := r
          have hb : bor = true := by
            cases bor with
            | true => rfl
            | false => exact absurd ⟨rfl, rfl⟩ hn
          exact ⟨a, xs, rfl, hs.elim (fun h => .inl (c.b hb _ _ h)) fun h => .inr (c.g _ _ h), mapDL_rel c hh ds es xs he hl⟩
        | ext =>
          obtain ⟨a, xs, rfl, hs, hl⟩ := r
          exact ⟨a, xs, rfl, by rw [c.k]; exact sqL_same c.g hs, mapDL_rel c hh ds es xs he hl⟩
      · cases e
  | .dik k ks ds, d', v, e, r => by
    unfold mapD at e
    split at e
    · cases e
    · rename_i hn
      split at e
      · rename_i es he
        cases e
        obtain ⟨a, xs, rfl, hz, hs, hl⟩ := r
        have hl2 := mapDL_rel c hh ds es xs he hl
        refine ⟨a, xs, rfl, hz.trans (hl.length.trans hl2.length.symm), hs.elim (fun h => .inl (c.g _ _ h)) fun h => .inr ⟨h.1, c.b ?_ _ _ h.2⟩, hl2⟩
        cases bor with
        | true => rfl
        | false => exact absurd ⟨h.1, rfl⟩ hn
      · cases e
  | .dit k ks ds, d', v, e, r => by
    unfold mapD at e
    split at e
    · cases e
    · rename_i hn
      split at e
      · rename_i es he
        cases e
        obtain ⟨a, xs, rfl, hz, hs, hl⟩ := r
        have hl2 := mapDL_rel c hh ds es xs he hl
        refine ⟨a, xs, rfl, hz.trans (hl.length.trans hl2.length.symm), hs.elim (fun h => .inl (c.g _ _ h)) fun h => .inr ⟨h.1, c.b ?_ _ _ h.2⟩, hl2⟩
        cases bor with
        | true => rfl
        | false => exact absurd ⟨h.1, rfl⟩ hn
      · cases e
  | .non, d', v, e, r => by
    cases (show some DV.non = some d' from e)
    exact r
  | .bl b, d', v, e, r => by
    cases (show some (DV.bl b) = some d' from e)
    exact r
  | .int b, d', v, e, r => by
    cases (show some (DV.int b) = some d' from e)
    exact r
  | .str b, d', v, e, r => by
    cases (show some (DV.str b) = some d' from e)
    exact r
theorem mapDL_rel {bor : Bool} {h : Nat → Option DV} {F F2 : Fm} (c : CpTo bor F F2) (hh : ∀ n d a, h n = some d → F.lm[n]? = some a → Rel F2 d (.ref a)) : ∀ (ds es : List DV) (vs : List V), mapDL bor h ds = some es → RelL F ds vs → RelL F2 es vs
  | [], es, vs, e, r => by
    cases (show some ([] : List DV) = some es from e)
    exact r
  | d :: ds, es, vs, e, r => by
    obtain ⟨x, xr, rfl, h1, h2⟩ := r
    unfold mapDL at e
    split at e
    · rename_i e1 he1
      split at e
      · rename_i es1 hes1
        cases e
        exact ⟨x, xr, rfl, mapD_rel c hh d e1 x he1 h1, mapDL_rel c hh ds es1 xr hes1 h2⟩
      · cases e
    · cases e
end
theorem cpN_rel {bor : Bool} {F F2 : Fm} {S : Sto} {H : Hp} (c : CpTo bor F F2) (R : Rep F S H)
    (hl : ∀ (n : Nat) (c : Cell) (a : Addr) (o : HO), S[n]? = some c → c.live = true → F.lm[n]? = some a → H a = some o → if bor then F2.B a = some o else F2.G a = some o) :
    ∀ (k n : Nat) (d : DV) (a : Addr), cpN bor k S n = some d → F.lm[n]? = some a → Rel F2 d (.ref a)
  | 0, n, d, a, e, _ => by cases e
  | k + 1, n, d, a, e, ha => by
    have ih := cpN_rel c R hl k
    unfold cpN at e
    split at e
    · rename_i ds hc
      obtain ⟨⟨xs, e2, hr⟩, _⟩ := R.cell n _ a hc ha
      have q := hl n _ a _ hc rfl ha e2
      split at e
      · rename_i es he
        cases e
        have hl2 := mapDL_rel c ih ds es xs he hr
        cases bor with
        | true => exact ⟨a, xs, rfl, .inl q, hl2⟩
        | false => exact ⟨a, xs, rfl, q, hl2⟩
      · cases e
    · rename_i ks ds hc
      obtain ⟨⟨xs, hz, e2, hr⟩, _⟩ := R.cell n _ a hc ha
      have q := hl n _ a _ hc rfl ha e2
      split at e
      · rename_i es he
        cases e
        have hl2 := mapDL_rel c ih ds es xs he hr
        have hz2 := hz.trans (hr.length.trans hl2.length.symm)
        cases bor with
        | true => exact ⟨a, xs, rfl, hz2, .inr ⟨(fun z => nomatch z), q⟩, hl2⟩
        | false => exact ⟨a, xs, rfl, hz2, .inl q, hl2⟩
      · cases e
    · rename_i ks ds hc
      obtain ⟨⟨xs, hz, e2, hr⟩, _⟩ := R.cell n _ a hc ha
      have q := hl n _ a _ hc rfl ha e2
      split at e
      · rename_i es he
        cases e
        have hl2 := mapDL_rel c ih ds es xs he hr
        have hz2 := hz.trans (hr.length.trans hl2.length.symm)
        cases bor with
        | true => exact ⟨a, xs, rfl, hz2, .inr ⟨(fun z => nomatch z), q⟩, hl2⟩
        | false => exact ⟨a, xs, rfl, hz2, .inl q, hl2⟩
      · cases e
    · rename_i d0 hc
      obtain ⟨hr, _⟩ := R.cell n _ a hc ha
      exact mapD_rel c ih d0 d (.ref a) e hr
    · cases e
/-- all arguments as borrowed values -/
theorem cpL_bor {F : Fm} {S : Sto} {H : Hp} (R : Rep F S H) {ds es : List DV} {vs : List V} (e : cpL true S ds = some es) (r : RelL F ds vs) : RelL ⟨F.K, F.G, H, fun _ => none, []⟩ es vs :=
  have c : CpTo true F ⟨F.K, F.G, H, fun _ => none, []⟩ := ⟨rfl, Same.refl _, fun _ => R.b⟩
  mapDL_rel c (cpN_rel c R (fun n c a o h l e1 e2 => by rw [if_pos rfl]; exact e2) _) ds es vs e r
theorem rep_empty {F : Fm} {S : Sto} {H : Hp} (R : Rep F S H) : Rep ⟨F.K, F.G, H, fun _ => none, []⟩ [] H :=
  ⟨R.g, Same.refl _, (fun _ _ q => nomatch q), R.tup, rfl, fun n c a h _ => by simp at h, fun n m c c' a h => by simp at h⟩

/-! ### defs -/
def runF (np n : Nat) (body : DS) : PL := fun ds S => if ds.length = np then (match body (ds.map some ++ List.replicate (n - ds.length) none) S with
  | some (.rt d S') => some (d, S')
  | some (.nx _ S') => some (.non, S')
  | _ => none) else none
def spS (K : PySem.W.Frag) (np : Nat) (f : PL) : Sp := fun vs H Q _ => ∃ F S ds d S', F.K = K ∧ Rep F S H ∧ RelL F ds vs ∧ ds.length = np ∧ f ds S = some (d, S') ∧ PostE F S' d Q
theorem relE_start {F : Fm} {ds : List DV} {vs : List V} (r : RelL F ds vs) (N : List Str) : RelE F (ds.map some ++ List.replicate (N.length - ds.length) none) (L2.start N vs) := by
  have hl := r.length
  refine ⟨by unfold L2.start; simp [hl], fun i d e => ?_⟩
  unfold L2.start
  by_cases q : i < ds.length
  · rw [List.getElem?_append_left (by simpa using q)] at e
    rw [List.getElem?_append_left (by simp; omega)]
    rw [List.getElem?_map] at e
    cases e2 : ds[i]? with
    | none =>
      rw [e2] at e
      cases e
    | some d2 =>
      rw [e2] at e
      have e3 : d2 = d := Option.some.inj (Option.some.inj e)
      subst e3
      obtain ⟨v, e4, e5⟩ := r.get e2
      exact ⟨v, by rw [List.getElem?_map, e4] <;> rfl, e5⟩
  · rw [List.getElem?_append_right (by simp; omega)] at e
    have := List.getElem?_eq_some_iff.mp e
    obtain ⟨h1, h2⟩ := this
    rw [List.getElem_replicate] at h2
    cases h2
section
variable {P : Program} {w : World} {K : PySem.W.Frag} {mg : Str → Option Value} {base : Heap} {x qual : Str} {params : Arguments} {body : List Stmt} {scope : Scope} {dvs : List V} {kws : List (Str × V)} {f : Addr} {fd : FuncData}
/-- a def whose body is known as a denotation -/
theorem fn_ok {N ps : List Str} {k : Nat} {b : DS} (F : FunD K x qual params body scope dvs kws f fd) (S : FnScope N ps scope)
    (hb : ∀ (cdv : Value) (A : Around) (outer : List Env) (s : Shared) (H : Hp) (E : XK), Room k (A.deeper (envOfC qual scope s.heap.objs.size f cdv)) → SDs (cxOf CX0 P w K mg base N qual scope f cdv A outer s H E).nox body b) :
    FnOk P w K mg base CX0 (k + 1) f fd ps (spS K ps.length (runF ps.length N.length b)) := by
  refine F.ok S (fun vs H Q E h => ?_) (fun cdv A outer s H vs Q E hr h => ?_)
  · obtain ⟨F, S, ds, d, S', hk, R, r, hn, _⟩ := h
    rw [← r.length, hn]
  · refine ⟨_, (hb cdv A outer s H E hr).ps.nox, ?_⟩
    obtain ⟨F, S, ds, d, S', hk, R, r, hn, e, hq⟩ := h
    unfold runF at e
    rw [if_pos hn] at e
    split at e
    · rename_i d' S2 h1
      cases e
      exact ⟨F, S, _, _, hk, R, relE_start r N, h1, fun F' H' le R' v rv => hq F' H' v le R' rv⟩
    · rename_i ρ' S2 h1
      cases e
      exact ⟨F, S, _, _, hk, R, relE_start r N, h1, fun F' H' le R' σ' _ => hq F' H' .non le R' rfl⟩
    · cases e
end

/-! ### calls -/
/-- a call that shares the store -/
def cS (f : PL) (dds : List DV) : PL := fun xs S => f (xs ++ dds) S
theorem ok_cS {K : PySem.W.Frag} {np : Nat} {f : PL} {dds : List DV} {dvs : List V} {E : XK} (hd : ∀ F : Fm, RelL F dds dvs) (hn : ∀ xs S z, f xs S = some z → xs.length = np) : OkL K (cS f dds) (fun vs H Q => spS K np f (vs ++ dvs) H Q E) :=
  fun F S H xs vs d S' Q hk R r hp hq => ⟨F, S, xs ++ dds, d, S', hk, R, r.append (hd F), hn _ _ _ hp, hp, hq⟩
theorem runF_len {np n : Nat} {b : DS} : ∀ xs S z, runF np n b xs S = some z → xs.length = np := fun xs S z h => by
  unfold runF at h
  exact (of_ite h).1
/-- a call with a store of its own: a function of the arguments' values -/
def pureOf (f : PL) : List DV → Option DV := fun ds => match f ds [] with
  | some (d, S') => cpD false S' d
  | none => none
def cP (p : List DV → Option DV) (dds : List DV) : PL := fun xs S => match cpL true S (xs ++ dds) with
  | some ys => (match p ys with
    | some d => some (d, S)
    | none => none)
  | none => none
/-- behind a call with a store of its own: all new objects are frozen -/
def newG (G H H' : Hp) : Hp := fun a => match G a with
  | some o => some o
  | none => if H a = none then H' a else none
theorem newG_same {G H H' : Hp} : Same G (newG G H H') := fun a o e => by
  unfold newG
  rw [e]
theorem after_pure {F Fc : Fm} {S S' : Sto} {H H' : Hp} (R : Rep F S H) (le : Le ⟨F.K, F.G, H, fun _ => none, []⟩ Fc) (R' : Rep Fc S' H') {ex : Addr → Prop} [DecidablePred ex] (hex : ∀ a, ex a → Fc.G a = none ∧ H a = none) (hexT : ∀ a xs, ex a → H' a ≠ some (.tup xs)) :
    Rep { F with G := fun a => if ex a then none else newG Fc.G H H' a } S H' ∧ Le F { F with G := fun a => if ex a then none else newG Fc.G H H' a } := by
  have hB : Fc.B = H := le.b
  have sHH : Same H H' := by
    have := R'.b
    rw [hB] at this
    exact this
  have sG : Same F.G (fun a => if ex a then none else newG Fc.G H H' a) := fun a o e => by
    have e1 : Fc.G a = some o := le.g _ _ e
    by_cases q : ex a
    · rw [(hex a q).1] at e1
      cases e1
    · show (if ex a then none else newG Fc.G H H' a) = some o
      rw [if_neg q]
      exact newG_same _ _ e1
  have at_ : ∀ a o, (if ex a then none else newG Fc.G H H' a) = some o → (Fc.G a = some o ∨ (H a = none ∧ H' a = some o)) := fun a o e => by
    by_cases q : ex a
    · rw [if_pos q] at e
      cases e
    · rw [if_neg q] at e
      unfold newG at e
      split at e
      · rename_i o' h1
        cases e
        exact .inl h1
      · split at e
        · exact .inr ⟨by assumption, e⟩
        · cases e
  refine ⟨⟨fun a o e => ?_, fun a o e => sHH _ _ (R.b _ _ e), fun a o e => sHH _ _ (R.p _ _ e), fun a xs e => ?_, R.len, fun n c a h e => ?_, R.inj⟩, ⟨rfl, rfl, rfl, sG, fun a o e => ?_, List.prefix_refl _⟩⟩
  · rcases at_ a o e with h | ⟨_, h⟩
    · exact R'.g _ _ h
    · exact h
  · have h1 := R'.tup _ _ e
    show (if ex a then none else newG Fc.G H H' a) = _
    rw [if_neg fun q => hexT a xs q e]
    exact newG_same _ _ h1
  · obtain ⟨k1, k2⟩ := R.cell n c a h e
    have wk1 : Wk F { F with G := fun a => if ex a then none else newG Fc.G H H' a } := ⟨rfl, Same.refl _, sG, List.prefix_refl _⟩
    refine ⟨CellOk.wk (F := F) wk1 (fun _ _ _ e => e) k1 fun l => ?_, fun l => ⟨?_, (k2 l).2⟩⟩
    · obtain ⟨o, e1, _⟩ := k1.some l
      rw [e1]
      exact sHH _ _ e1
    · obtain ⟨o, e1, _⟩ := k1.some l
      show (if ex a then none else newG Fc.G H H' a) = none
      cases q : (if ex a then none else newG Fc.G H H' a) with
      | none => rfl
      | some u =>
        rcases at_ a u q with h | ⟨h, _⟩
        · rcases le.n a u h with h2 | h2
          · have h3 : F.G a = some u := h2
            rw [(k2 l).1] at h3
            cases h3
          · have h3 : H a = none := h2.1
            rw [e1] at h3
            cases h3
        · rw [e1] at h
          cases h
  · rcases at_ a o e with h | ⟨h, _⟩
    · rcases le.n a o h with h2 | h2
      · exact .inl h2
      · have h3 : H a = none := h2.1
        exact .inr ⟨R.b.free h3, R.p.free h3⟩
    · exact .inr ⟨R.b.free h, R.p.free h⟩
theorem ok_cP {K : PySem.W.Frag} {np : Nat} {f : PL} {dds : List DV} {dvs : List V} {E : XK} (hd : ∀ F : Fm, RelL F dds dvs) (hn : ∀ xs S z, f xs S = some z → xs.length = np) : OkL K (cP (pureOf f) dds) (fun vs H Q => spS K np f (vs ++ dvs) H Q E) :=
  fun F S H xs vs d S' Q hk R r hp hq => by
    unfold cP at hp
    split at hp
    · rename_i ys hy
      split at hp
      · rename_i d0 hp0
        cases hp
        unfold pureOf at hp0
        split at hp0
        · rename_i d1 S1 hf
          refine ⟨⟨F.K, F.G, H, fun _ => none, []⟩, [], ys, d1, S1, hk, rep_empty R, cpL_bor R hy (r.append (hd F)), hn _ _ _ hf, hf, fun Fc H' v le R' rv => ?_⟩
          obtain ⟨R2, le2⟩ := after_pure R le R' (ex := fun _ => False) (fun _ q => q.elim) (fun _ _ q => q.elim)
          refine hq _ _ v le2 R2 ?_
          have hB : Fc.B = H := le.b
          have c : CpTo false Fc { F with G := fun a => if False then none else newG Fc.G H H' a } := ⟨le.k.symm, fun a o e => newG_same _ _ e, fun q => nomatch q⟩
          refine mapD_rel c (cpN_rel c R' (fun n cc a o h l e1 e2 => ?_) _) d1 d v hp0 rv
          rw [if_neg Bool.false_ne_true]
          obtain ⟨_, k2⟩ := R'.cell n cc a h e1
          obtain ⟨ga, ba⟩ := k2 l
          show newG Fc.G H H' a = some o
          unfold newG
          rw [ga]
          show (if H a = none then H' a else none) = some o
          rw [← hB, if_pos ba.1, e2]
        · cases hp0
      · cases hp
    · cases hp
def cM (p : List DV → Option (List DV)) (dds : List DV) : PL := fun xs S => match cpL true S (xs ++ dds) with
  | some ys => (match p ys with
    | some es => some (.loc S.length, S ++ [.lst es])
    | none => none)
  | none => none
section
variable {X : Cx} {e : Expr}
theorem ed_call {es : List Expr} {sp : Sp} {dvs : List V} {E : XK} {p : PL} {fa : DA} (hpe : ∀ {t : TA}, PA X es t → PE X e (tCall sp dvs E t)) (hp : OkL X.K p (fun vs H Q => sp (vs ++ dvs) H Q E)) (ha : AD X es fa) : ED X e (dPrim p fa) :=
  .of (hpe ha.pa) fun F S H ρ σ d S' Q hk R rr hf hq => prim_go hp hk R rr hf hq
end
end Dn

namespace Dn
open PySem PySem.Spec PyProof.Rows L2

/-! ### comprehensions -/
theorem wipe_get {σ : L2.St} : ∀ {vs : List Nat} {j : Nat}, (wipe σ vs)[j]? = if j ∈ vs then (σ[j]?).map (fun _ => none) else σ[j]?
  | [], j => by rw [if_neg (by simp)] <;> rfl
  | v :: vs, j => by
    unfold wipe
    by_cases q : v = j
    · subst q
      rw [if_pos (by simp)]
      by_cases hv : v < σ.length
      · rw [List.getElem?_set_self (by rw [wipe_length]; exact hv), List.getElem?_eq_getElem hv] <;> rfl
      · rw [List.getElem?_eq_none (by rw [List.length_set, wipe_length]; omega), List.getElem?_eq_none (by omega)] <;> rfl
    · rw [List.getElem?_set_ne q, wipe_get (vs := vs)]
      by_cases hm : j ∈ vs
      · rw [if_pos hm, if_pos (by simp [hm])]
      · rw [if_neg hm, if_neg (by simp [hm]; exact fun z => q z.symm)]
theorem wipe_set {σ : L2.St} {vs : List Nat} {i : Nat} {x : Option V} (h : i ∈ vs) : wipe (σ.set i x) vs = wipe σ vs := by
  apply List.ext_getElem?
  intro j
  rw [wipe_get, wipe_get]
  by_cases q : i = j
  · subst q
    rw [if_pos h, if_pos h]
    by_cases hl : i < σ.length
    · rw [List.getElem?_set_self hl, List.getElem?_eq_getElem hl] <;> rfl
    · rw [List.getElem?_eq_none (by simp; omega), List.getElem?_eq_none (by omega)]
  · rw [List.getElem?_set_ne q]
theorem wipe_wipe {σ : L2.St} {vs : List Nat} : wipe (wipe σ vs) vs = wipe σ vs := by
  apply List.ext_getElem?
  intro j
  rw [wipe_get, wipe_get]
  by_cases h : j ∈ vs
  · rw [if_pos h, if_pos h, Option.map_map] <;> rfl
  · rw [if_neg h]
def dwipe (ρ : Ev) : List Nat → Ev
  | [] => ρ
  | v :: vs => (dwipe ρ vs).set v none
theorem relE_wipe {F : Fm} {ρ : Ev} {σ : L2.St} (r : RelE F ρ σ) : ∀ vs : List Nat, RelE F (dwipe ρ vs) (wipe σ vs)
  | [] => r
  | v :: vs => by
    have ih := relE_wipe r vs
    unfold dwipe wipe
    refine ⟨by simp [ih.len], fun j d e => ?_⟩
    by_cases q : v = j
    · subst q
      have hlt := (List.getElem?_eq_some_iff.mp e).1
      rw [List.length_set] at hlt
      rw [List.getElem?_set_self hlt] at e
      cases e
    · rw [List.getElem?_set_ne q] at e ⊢
      exact ih.at_ j d e
/-- a target of names alone: the heap stays, only the slots vs are set -/
def GW (K : PySem.W.Frag) (t : TG) (g : DG) (vs : List Nat) : Prop := ∀ F S H ρ σ d v ρ' S' (Q : L2.St → Hp → Prop), F.K = K → Rep F S H → RelE F ρ σ → Rel F d v → g d ρ S = some (ρ', S') → (∀ σ', S' = S → RelE F ρ' σ' → wipe σ' vs = wipe σ vs → Q σ' H) → t v σ H Q
theorem gw_name {K : PySem.W.Frag} {i : Nat} {vs : List Nat} (h : i ∈ vs) : GW K (gName i) (gSet i) vs := fun F S H ρ σ d v ρ' S' Q hk R rr rv hf hq => by
  cases (show some (ρ.set i (some d), S) = some (ρ', S') from hf)
  exact hq _ rfl (rr.set i rv) (wipe_set h)
theorem GW.gd {X : Cx} {e : Expr} {t : TG} {g : DG} {vs : List Nat} (h : GW X.K t g vs) (hp : PG X e t) : GD X e g := .of hp fun F S H ρ σ d v ρ' S' Q hk R rr rv hf hq =>
  h F S H ρ σ d v ρ' S' Q hk R rr rv hf fun σ' hS r _ => by
    subst hS
    exact hq F H σ' (.refl F) R r

def lcL (g : DG) (c fe : DE) (ρ : Ev) : List DV → Sto → Option (List DV × Sto)
  | [], S => some ([], S)
  | d :: ds, S => match g d ρ S with
    | some (ρ1, S1) => (match c ρ1 S1 with
      | some (.bl true, S2) => (match fe ρ1 S2 with
        | some (y, S3) => (match lcL g c fe ρ ds S3 with
          | some (ys, S4) => some (y :: ys, S4)
          | none => none)
        | none => none)
      | some (.bl false, S2) => lcL g c fe ρ ds S2
      | _ => none)
    | none => none
def lcR (it : DI) (g : DG) (c fe : DE) (vs : List Nat) : DA := fun ρ S => match it ρ S with
  | some (ds, S1) => (match lcL g c fe (dwipe ρ vs) ds S1 with
    | some (ys, S2) => if ys.length ≤ sizeLine then some (ys, S2) else none
    | none => none)
  | none => none
def dLc (it : DI) (g : DG) (c fe : DE) (vs : List Nat) : DE := fun ρ S => match lcR it g c fe vs ρ S with
  | some (ys, S2) => some (.lst .own ys, S2)
  | none => none
def dLcM (it : DI) (g : DG) (c fe : DE) (vs : List Nat) : DE := fun ρ S => match lcR it g c fe vs ρ S with
  | some (ys, S2) => some (.loc S2.length, S2 ++ [.lst ys])
  | none => none
def NoCell (F : Fm) (S : Sto) (D : Addr) : Prop := ∀ (n : Nat) (c : Cell), S[n]? = some c → c.live = true → F.lm[n]? ≠ some D
abbrev Fm.prot (F : Fm) (P : Hp) : Fm := { F with P := P }
theorem Rep.prot {F : Fm} {S : Sto} {H : Hp} (R : Rep F S H) {P : Hp} (hP : Same P H) (pf : ∀ a o u, F.P a = some (.frz o u) → P a = some (.frz o u)) (hc : ∀ (n : Nat) (c : Cell) (a : Addr), S[n]? = some c → c.live = true → F.lm[n]? = some a → P a = none) : Rep (F.prot P) S H :=
  ⟨R.g, R.b, hP, R.tup, R.len, fun n c a h e => ⟨CellOk.wk (F := F) (F' := F.prot P) (⟨rfl, Same.refl F.B, Same.refl F.G, List.prefix_refl F.lm⟩ : Wk F (F.prot P)) pf (R.cell n c a h e).1 fun _ => rfl, fun l => ⟨((R.cell n c a h e).2 l).1, ((R.cell n c a h e).2 l).2.1, hc n c a h l e⟩⟩, R.inj⟩
/-- an object that no data leans on is changed -/
theorem Rep.over {F : Fm} {S : Sto} {H : Hp} (R : Rep F S H) {D : Addr} {o : HO} (gD : F.G D = none) (fD : F.free D) (nc : NoCell F S D) (ht : ∀ xs, o ≠ .tup xs) : Rep F S (upd H D o) := by
  refine ⟨same_mono R.g gD, same_mono R.b fD.1, same_mono R.p fD.2, fun a xs e => ?_, R.len, fun n c a h e => ?_, R.inj⟩
  · by_cases q : a = D
    · rw [q, upd_same] at e
      exact absurd (Option.some.inj e) (ht xs)
    · rw [upd_ne q] at e
      exact R.tup _ _ e
  · obtain ⟨k1, k2⟩ := R.cell n c a h e
    exact ⟨k1.wk (Le.refl F).wk (Le.refl F).pf fun l => upd_ne fun q => nc n c h l (by rw [← q]; exact e), k2⟩
/-- an object that is there becomes frozen data -/
theorem Rep.adopt {F : Fm} {S : Sto} {H : Hp} (R : Rep F S H) {p : Addr} {o : HO} (hp : H p = some o) (gp : F.G p = none) (fp : F.free p) (nc : NoCell F S p) : Rep (F.add p o) S H ∧ Le F (F.add p o) := by
  have le := Fm.add_le (F := F) (o := o) gp fp
  refine ⟨⟨fun a u e => ?_, R.b, R.p, fun a xs e => ?_, R.len, fun n c a h e => ?_, R.inj⟩, le⟩
  · have e2 : upd F.G p o a = some u := e
    by_cases q : a = p
    · rw [q, upd_same] at e2
      rw [q, hp]
      exact e2
    · rw [upd_ne q] at e2
      exact R.g _ _ e2
  · show upd F.G p o a = _
    by_cases q : a = p
    · rw [q, upd_same, ← hp, ← q]
      exact e
    · rw [upd_ne q]
      exact R.tup _ _ e
  · obtain ⟨k1, k2⟩ := R.cell n c a h e
    refine ⟨k1.wk le.wk le.pf fun _ => rfl, fun l => ⟨?_, (k2 l).2⟩⟩
    show upd F.G p o a = none
    rw [upd_ne fun q => nc n c h l (by rw [← q]; exact e)]
    exact (k2 l).1
theorem lc_go {K : PySem.W.Frag} {it : DI} {g : DG} {c fe : DE} {vs : List Nat} {t : TG} {tt : TT} (hg : GW K t g vs) (hc : ∀ σ H Q, rdT K c σ H Q → tt σ H Q) {F : Fm} {S S2 : Sto} {H : Hp} {ρ : Ev} {σ : L2.St} {ys : List DV} {Q : VK}
    (hk : F.K = K) (R : Rep F S H) (rr : RelE F ρ σ) (hf : lcR it g c fe vs ρ S = some (ys, S2))
    (hq : ∀ F' H' D xs, Le F F' → Rep F' S2 H' → H' D = some (.lst xs) → RelL F' ys xs → F'.G D = none → F'.free D → NoCell F' S2 D → Q (.ref D) H') : tLc (rdI K it) t tt (rdE K fe) vs σ H Q := by
  unfold lcR at hf
  split at hf
  · rename_i ds S1 h1
    split at hf
    · rename_i ys' S2' h2
      obtain ⟨hsz, hf⟩ := of_ite hf
      cases hf
      refine ⟨F, S, ρ, ds, S1, hk, R, rr, h1, fun J F1 H1 le1 R1 wk D hD => ?_⟩
      have r1 := rr.le le1
      refine ⟨fun i m H => i ≤ ds.length ∧ m = ds.length - i ∧ ∃ F' S' acc accV rest, Le F1 F' ∧ Rep F' S' H ∧ H D = some (.lst accV) ∧ RelL F' acc accV ∧ F'.G D = none ∧ F'.free D ∧ NoCell F' S' D ∧ lcL g c fe (dwipe ρ vs) (ds.drop i) S' = some (rest, S2) ∧ ys = acc ++ rest,
        ⟨ds.length, Nat.zero_le _, rfl, F1, S1, [], [], ys, .refl F1, R1.beside hD (fun _ q => nomatch q), upd_same, rfl, R1.g.free hD, ⟨R1.b.free hD, R1.p.free hD⟩, R1.noCell hD, by rw [List.drop_zero]; exact h2, rfl⟩, ?_⟩
      rintro i m H ⟨hi, rfl, F', S', acc, accV, rest, le', R', eD, ra, gD, fD, nc, hl, ey⟩
      have Pw : Wk F' (F'.prot (upd F'.P D (.lst accV))) := ⟨rfl, Same.refl _, Same.refl _, List.prefix_refl _⟩
      have Rp : Rep (F'.prot (upd F'.P D (.lst accV))) S' H := by
        refine R'.prot (fun a o e => ?_) (fun a o u e => by
          show upd F'.P D (.lst accV) a = _
          rw [upd_ne fun q => by rw [q, fD.2] at e; cases e]
          exact e) fun n c a h l e => ?_
        · by_cases q : a = D
          · rw [q, upd_same] at e
            rw [q, eD]
            exact e
          · rw [upd_ne q] at e
            exact R'.p _ _ e
        · rw [upd_ne fun q => nc n c h l (by rw [← q]; exact e)]
          exact ((R'.cell n c a h e).2 l).2.2
      have wk1 : Wk F1 (F'.prot (upd F'.P D (.lst accV))) := ⟨le'.k, le'.wk.b, le'.g, le'.m⟩
      obtain ⟨w1, w2⟩ := wk i _ S' H wk1 (fun a o u e => by
        show upd F'.P D (.lst accV) a = _
        have e' : F'.P a = some (.frz o u) := by rw [le'.p]; exact e
        rw [upd_ne fun q => by rw [q, fD.2] at e'; cases e']
        exact e') Rp
      by_cases hlt : i < ds.length
      · refine .inr ?_
        obtain ⟨g1, g2⟩ := w2 _ (List.getElem?_eq_getElem hlt)
        rw [List.drop_eq_getElem_cons hlt] at hl
        unfold lcL at hl
        refine ⟨g1, fun H' => ∃ m', m' < ds.length - i ∧ (i + 1 ≤ ds.length ∧ m' = ds.length - (i + 1) ∧ ∃ F' S' acc accV rest, Le F1 F' ∧ Rep F' S' H' ∧ H' D = some (.lst accV) ∧ RelL F' acc accV ∧ F'.G D = none ∧ F'.free D ∧ NoCell F' S' D ∧ lcL g c fe (dwipe ρ vs) (ds.drop (i + 1)) S' = some (rest, S2) ∧ ys = acc ++ rest), fun _ z => z, fun x H2 y => ?_⟩
        obtain ⟨F2, le2, R2, rx⟩ := g2 x H2 y
        have rE2 : RelE F2 (dwipe ρ vs) (wipe σ vs) := relE_wipe ((r1.wk wk1).le le2) vs
        -- what is known behind any part of the turn
        have back : ∀ {F4 : Fm} {S4 : Sto} {H4 : Hp}, Le (F'.prot (upd F'.P D (.lst accV))) F4 → Rep F4 S4 H4 → H4 D = some (.lst accV) ∧ Le F1 (F4.prot F1.P) ∧ F4.G D = none ∧ F4.B D = none ∧ F1.P D = none ∧ NoCell F4 S4 D ∧ Rep (F4.prot F1.P) S4 H4 ∧ RelL F4 acc accV := fun {F4 S4 H4} le4 R4 => by
          have eP : F4.P = upd F'.P D (.lst accV) := le4.p
          have ePD : F4.P D = some (.lst accV) := by rw [eP, upd_same]
          have pp : F'.P = F1.P := le'.p
          have gD4 : F4.G D = none := by
            cases q : F4.G D with
            | none => rfl
            | some o =>
              rcases le4.n D o q with h | h
              · have h2 : F'.G D = some o := h
                rw [gD] at h2
                cases h2
              · have h2 : upd F'.P D (HO.lst accV) D = none := h.2
                rw [upd_same] at h2
                cases h2
          have pD : F1.P D = none := by rw [← pp]; exact fD.2
          have nc4 : NoCell F4 S4 D := fun n c h l e => by
            have h3 := ((R4.cell n c D h e).2 l).2.2
            rw [ePD] at h3
            cases h3
          refine ⟨R4.p _ _ ePD, ⟨le4.k.trans le'.k, le4.b.trans le'.b, rfl, le'.g.trans le4.g, fun a o e => ?_, le'.m.trans le4.m⟩, gD4, ?_, pD, nc4, ?_, RelL.wk (F := F') ?_ _ _ ra⟩
          · rcases le4.n a o e with h | h
            · exact le'.n a o h
            · right
              have h1 : F'.B a = none := h.1
              have h2 : upd F'.P D (HO.lst accV) a = none := h.2
              have h3 : F'.P a = none := by
                by_cases q : a = D
                · rw [q, upd_same] at h2
                  cases h2
                · rw [upd_ne q] at h2
                  exact h2
              exact ⟨by rw [← le'.b]; exact h1, by rw [← pp]; exact h3⟩
          · rw [le4.b]
            exact fD.1
          · refine R4.prot (fun a o e => ?_) (fun a o u e => by
              rw [eP] at e
              by_cases q : a = D
              · rw [q, upd_same] at e
                cases e
              · rw [upd_ne q, pp] at e
                exact e) fun n c a h l e => ?_
            · refine R4.p _ _ ?_
              rw [eP, upd_ne (fun q => by rw [q, pD] at e; cases e), pp]
              exact e
            · have h3 := ((R4.cell n c a h e).2 l).2.2
              rw [eP] at h3
              by_cases q : a = D
              · rw [q]
                exact pD
              · rw [upd_ne q, pp] at h3
                exact h3
          · exact ⟨le4.k, le4.wk.b, le4.g, le4.m⟩
        split at hl
        · rename_i ρ1 S3 hg1
          refine hg F2 S' H2 _ _ _ x ρ1 S3 _ (le2.k.trans (le'.k.trans (le1.k.trans hk))) R2 rE2 rx hg1 fun σ3 hS r3 w3 => ⟨w3.trans wipe_wipe, ?_⟩
          subst hS
          split at hl
          · rename_i S5 hc1
            refine hc _ _ _ (rdT.go (le2.k.trans (le'.k.trans (le1.k.trans hk))) R2 r3 hc1 fun F3 H3 le3 hk3 R3 r4 => ?_)
            rw [if_pos rfl]
            split at hl
            · rename_i y1 S6 he1
              split at hl
              · rename_i ys7 S7 hl7
                cases hl
                refine rdE.go hk3 R3 r4 he1 fun F4 H4 v le4 hk4 R4 r5 rv => ?_
                obtain ⟨b1, b2, b3, b4, b5, b6, b7, b8⟩ := back ((le2.trans le3).trans le4) R4
                have hlen := ra.length
                refine ⟨accV, b1, ?_, _, by omega, hlt, rfl, F4.prot F1.P, S6, acc ++ [y1], accV ++ [v], ys7, b2, b7.over b3 ⟨b4, b5⟩ b6 (fun _ q => nomatch q), upd_same, ?_, b3, ⟨b4, b5⟩, b6, hl7, by rw [ey, List.append_assoc] <;> rfl⟩
                · rw [ey] at hsz
                  simp at hsz
                  omega
                · exact RelL.wk (F := F4) (F' := F4.prot F1.P) (⟨rfl, Same.refl F4.B, Same.refl F4.G, List.prefix_refl F4.lm⟩ : Wk F4 (F4.prot F1.P)) _ _ (b8.append (RelL.cons rv rfl))
              · cases hl
            · cases hl
          · rename_i S5 hc1
            refine hc _ _ _ (rdT.go (le2.k.trans (le'.k.trans (le1.k.trans hk))) R2 r3 hc1 fun F3 H3 le3 hk3 R3 r4 => ?_)
            rw [if_neg Bool.false_ne_true]
            obtain ⟨b1, b2, b3, b4, b5, b6, b7, b8⟩ := back (le2.trans le3) R3
            exact ⟨_, by omega, hlt, rfl, F3.prot F1.P, S5, acc, accV, rest, b2, b7, b1, RelL.wk (F := F3) (F' := F3.prot F1.P) (⟨rfl, Same.refl F3.B, Same.refl F3.G, List.prefix_refl F3.lm⟩ : Wk F3 (F3.prot F1.P)) _ _ b8, b3, ⟨b4, b5⟩, b6, hl, ey⟩
          · cases hl
        · cases hl
      · have e : i = ds.length := by omega
        subst e
        rw [List.drop_length] at hl
        cases (show some (([] : List DV), S') = some (rest, S2) from hl)
        rw [List.append_nil] at ey
        subst ey
        exact .inl ⟨w1 rfl, hq F' H D accV (le1.trans le') R' eD ra gD fD nc⟩
    · cases hf
  · cases hf
theorem lc_own {K : PySem.W.Frag} {it : DI} {g : DG} {c fe : DE} {vs : List Nat} {t : TG} {tt : TT} (hg : GW K t g vs) (hc : ∀ σ H Q, rdT K c σ H Q → tt σ H Q) {F : Fm} {S S' : Sto} {H : Hp} {ρ : Ev} {σ : L2.St} {d : DV} {Q : VK}
    (hk : F.K = K) (R : Rep F S H) (rr : RelE F ρ σ) (hf : dLc it g c fe vs ρ S = some (d, S')) (hq : PostE F S' d Q) : tLc (rdI K it) t tt (rdE K fe) vs σ H Q := by
  unfold dLc at hf
  split at hf
  · rename_i ys S2 h
    cases hf
    refine lc_go hg hc hk R rr h fun F' H' D xs le R' eD r gD fD nc => ?_
    obtain ⟨R2, le2⟩ := R'.adopt eD gD fD nc
    exact hq _ _ _ (le.trans le2) R2 ⟨D, xs, rfl, upd_same, r.le le2⟩
  · cases hf
theorem lc_mut {K : PySem.W.Frag} {it : DI} {g : DG} {c fe : DE} {vs : List Nat} {t : TG} {tt : TT} (hg : GW K t g vs) (hc : ∀ σ H Q, rdT K c σ H Q → tt σ H Q) {F : Fm} {S S' : Sto} {H : Hp} {ρ : Ev} {σ : L2.St} {d : DV} {Q : VK}
    (hk : F.K = K) (R : Rep F S H) (rr : RelE F ρ σ) (hf : dLcM it g c fe vs ρ S = some (d, S')) (hq : PostE F S' d Q) : tLc (rdI K it) t tt (rdE K fe) vs σ H Q := by
  unfold dLcM at hf
  split at hf
  · rename_i ys S2 h
    cases hf
    refine lc_go hg hc hk R rr h fun F' H' D xs le R' eD r gD fD nc => ?_
    have R2 := R'.cell_new (c := .lst ys) ⟨xs, eD, r.le (F'.cell_le D)⟩ gD fD nc
    exact hq _ _ _ (le.trans (F'.cell_le D)) R2 ⟨D, by rw [← R'.len]; exact get_len _ _, rfl⟩
  · cases hf
theorem yes_of {K : PySem.W.Frag} : ∀ σ H Q, rdT K (dC (.bl true)) σ H Q → tYes σ H Q := fun σ H Q h => by
  obtain ⟨F, S, ρ, b, S', hk, R, rr, e, hq⟩ := h
  cases (show some (DV.bl true, S) = some (DV.bl b, S') from e)
  exact hq F H (.refl F) R
section
variable {X : Cx} {e : Expr} {st : Stmt} {it : DI} {g : DG} {c fe : DE} {vs : List Nat} {t : TG} {tt : TT}
theorem ed_lc (h : PE X e (tLc (rdI X.K it) t tt (rdE X.K fe) vs)) (hg : GW X.K t g vs) (hc : ∀ σ H Q, rdT X.K c σ H Q → tt σ H Q) : ED X e (dLc it g c fe vs) :=
  .of h fun F S H ρ σ d S' Q hk R rr hf hq => lc_own hg hc hk R rr hf hq
theorem ed_lcM (h : PE X e (tLc (rdI X.K it) t tt (rdE X.K fe) vs)) (hg : GW X.K t g vs) (hc : ∀ σ H Q, rdT X.K c σ H Q → tt σ H Q) : ED X e (dLcM it g c fe vs) :=
  .of h fun F S H ρ σ d S' Q hk R rr hf hq => lc_mut hg hc hk R rr hf hq
/-- name = [..] -/
theorem sd_setLc {i : Nat} (h : PS X st (tAsg (tLc (rdI X.K it) t tt (rdE X.K fe) vs) (gName i))) (hg : GW X.K t g vs) (hc : ∀ σ H Q, rdT X.K c σ H Q → tt σ H Q) : SD X st (dSet i (dLc it g c fe vs)) :=
  sd_set ⟨fun pins s σ H D I hw => h.run pins s σ H D I (by
    obtain ⟨F, S, ρ, d, S', hk, R, rr, hf, hq⟩ := hw
    exact lc_own hg hc hk R rr hf hq)⟩
theorem sd_setLcM {i : Nat} (h : PS X st (tAsg (tLc (rdI X.K it) t tt (rdE X.K fe) vs) (gName i))) (hg : GW X.K t g vs) (hc : ∀ σ H Q, rdT X.K c σ H Q → tt σ H Q) : SD X st (dSet i (dLcM it g c fe vs)) :=
  sd_set ⟨fun pins s σ H D I hw => h.run pins s σ H D I (by
    obtain ⟨F, S, ρ, d, S', hk, R, rr, hf, hq⟩ := hw
    exact lc_mut hg hc hk R rr hf hq)⟩
end
end Dn

namespace Dn
open PySem PySem.Spec PyProof.Rows L2

/-! ### what a value holds -/
def asL (S : Sto) : DV → Option (List DV)
  | .lst _ ds => some ds
  | .loc n => match S[n]? with
    | some (.lst ds) => some ds
    | some (.frz (.lst _ ds)) => some ds
    | _ => none
  | _ => none
/-- a list that is tracked as such (not the script, not the module's own) -/
def asT (S : Sto) : DV → Option (List DV)
  | .lst .own ds => some ds
  | .lst .bor ds => some ds
  | .loc n => match S[n]? with
    | some (.lst ds) => some ds
    | some (.frz (.lst .own ds)) => some ds
    | _ => none
  | _ => none
section
variable {F : Fm} {S : Sto} {H : Hp} {d : DV} {v : V} {ds : List DV}
theorem Rel.lstSq {k : LK} (R : Rep F S H) (r : Rel F (.lst k ds) v) : ∃ a xs, v = .ref a ∧ SqL F.K H a xs ∧ RelL F ds xs := by
  cases k with
  | own =>
    obtain ⟨a, xs, rfl, h, rl⟩ := r
    exact ⟨a, xs, rfl, SqL.of (R.g _ _ h), rl⟩
  | bor =>
    obtain ⟨a, xs, rfl, h, rl⟩ := r
    exact ⟨a, xs, rfl, SqL.of (h.elim (R.b _ _) (R.g _ _)), rl⟩
  | ext =>
    obtain ⟨a, xs, rfl, h, rl⟩ := r
    exact ⟨a, xs, rfl, sqL_same R.g h, rl⟩
theorem asL_sq (R : Rep F S H) (r : Rel F d v) (h : asL S d = some ds) : ∃ a xs, v = .ref a ∧ SqL F.K H a xs ∧ RelL F ds xs := by
  cases d with
  | lst k es =>
    cases (show some es = some ds from h)
    exact r.lstSq R
  | loc n =>
    obtain ⟨a, ha, rfl⟩ := r
    unfold asL at h
    simp only at h
    split at h
    · rename_i es hc
      cases h
      obtain ⟨⟨xs, e, rl⟩, _⟩ := R.cell n _ a hc ha
      exact ⟨a, xs, rfl, SqL.of e, rl⟩
    · rename_i k es hc
      cases h
      obtain ⟨rl, _⟩ := R.cell n _ a hc ha
      exact (show Rel F (.lst k ds) (.ref a) from rl).lstSq R
    · cases h
  | _ => cases h
theorem asT_sq (R : Rep F S H) (r : Rel F d v) (h : asT S d = some ds) : ∃ a xs, v = .ref a ∧ H a = some (.lst xs) ∧ RelL F ds xs := by
  cases d with
  | lst k es =>
    cases k with
    | own =>
      cases (show some es = some ds from h)
      obtain ⟨a, xs, rfl, h, rl⟩ := r
      exact ⟨a, xs, rfl, R.g _ _ h, rl⟩
    | bor =>
      cases (show some es = some ds from h)
      obtain ⟨a, xs, rfl, h, rl⟩ := r
      exact ⟨a, xs, rfl, h.elim (R.b _ _) (R.g _ _), rl⟩
    | ext => cases h
  | loc n =>
    obtain ⟨a, ha, rfl⟩ := r
    unfold asT at h
    simp only at h
    split at h
    · rename_i es hc
      cases h
      obtain ⟨⟨xs, e, rl⟩, _⟩ := R.cell n _ a hc ha
      exact ⟨a, xs, rfl, e, rl⟩
    · rename_i es hc
      cases h
      obtain ⟨rl, _⟩ := R.cell n _ a hc ha
      obtain ⟨b, xs, e1, h, rl⟩ := (show Rel F (.lst .own ds) (.ref a) from rl)
      cases e1
      exact ⟨a, xs, rfl, R.g _ _ h, rl⟩
    · cases h
  | _ => cases h
theorem tup_sq (R : Rep F S H) (r : Rel F (.tup ds) v) : ∃ a xs, v = .ref a ∧ SqT F.K H a xs ∧ RelL F ds xs := by
  obtain ⟨a, xs, rfl, h, rl⟩ := r
  exact ⟨a, xs, rfl, SqT.of (R.g _ _ h), rl⟩
theorem tup_at (R : Rep F S H) (r : Rel F (.tup ds) v) : ∃ a xs, v = .ref a ∧ H a = some (.tup xs) ∧ RelL F ds xs := by
  obtain ⟨a, xs, rfl, h, rl⟩ := r
  exact ⟨a, xs, rfl, R.g _ _ h, rl⟩
theorem tupx_sq (R : Rep F S H) (r : Rel F (.tupx ds) v) : ∃ a xs, v = .ref a ∧ SqT F.K H a xs ∧ RelL F ds xs := by
  obtain ⟨a, xs, rfl, h, rl⟩ := r
  exact ⟨a, xs, rfl, sqT_same R.g h, rl⟩
end

/-! ### arithmetic -/
abbrev PI2 := Int → Int → Option Int
def pI (g : PI2) : P2 := fun x y S => match x, y with
  | .int i, .int j => (match g i j with
    | some k => some (.int k, S)
    | none => none)
  | _, _ => none
theorem ok_I {K : PySem.W.Frag} {C : Int → Int → Prop} {g : Int → Int → Int} {p : PI2} (h : ∀ i j k, p i j = some k → C i j ∧ k = g i j) : Ok2 K (pI p) (rI C fun i j => .int (g i j)) :=
  fun F S H x y vx vy d S' Q hk R rx ry hp hq => by
    unfold pI at hp
    split at hp
    · rename_i i j
      split at hp
      · rename_i k hk
        cases hp
        obtain ⟨hc, rfl⟩ := h _ _ _ hk
        exact ⟨i, j, rx, ry, hc, hq F H _ (.refl F) R rfl⟩
      · cases hp
    · cases hp
theorem ok_I0 {K : PySem.W.Frag} {g : Int → Int → Int} : Ok2 K (pI fun i j => some (g i j)) (rI0 fun i j => .int (g i j)) :=
  fun F S H x y vx vy d S' Q hk R rx ry hp hq => by
    unfold pI at hp
    split at hp
    · cases hp
      exact ⟨_, _, rx, ry, hq F H _ (.refl F) R rfl⟩
    · cases hp
def gSub : PI2 := fun i j => some (i - j)
def gMul : PI2 := fun i j => if (i.natAbs < 18446744073709551616 ∨ j.natAbs < 18446744073709551616) ∨ i.natAbs.log2 + j.natAbs.log2 < 1000000 then some (i * j) else none
def gDiv : PI2 := fun i j => if 0 < j ∧ j.natAbs.log2 < 9000 then some (i / j) else none
def gMod : PI2 := fun i j => if 0 < j then some (i % j) else none
def gPow : PI2 := fun i j => if 0 ≤ j ∧ j ≤ 1000000 ∧ i.natAbs < 18446744073709551616 then some (i ^ j.toNat) else none
def gAnd : PI2 := fun i j => some (Builtin.bitAnd i j)
def gOr : PI2 := fun i j => some (Builtin.bitOr i j)
def gXor : PI2 := fun i j => some (Builtin.bitXor i j)
abbrev pSub : P2 := pI gSub
abbrev pDiv : P2 := pI gDiv
abbrev pMod : P2 := pI gMod
abbrev pPow : P2 := pI gPow
abbrev pAnd : P2 := pI gAnd
abbrev pOr : P2 := pI gOr
abbrev pXor : P2 := pI gXor
theorem of_ite2 {α : Type} {c : Prop} [Decidable c] {x z : α} (h : (if c then some x else none) = some z) : c ∧ z = x := by
  obtain ⟨h1, h2⟩ := of_ite h
  exact ⟨h1, (Option.some.inj h2).symm⟩
section
variable {X : Cx} {a b : Expr} {f g : DE} {pos : Pos}
theorem ed_sub (ha : ED X a f) (hb : ED X b g) : ED X (.BinOp a .Sub b pos) (dBin pSub f g) := ed_bin op_sub ok_I0 ha hb
theorem ed_div (ha : ED X a f) (hb : ED X b g) : ED X (.BinOp a .FloorDiv b pos) (dBin pDiv f g) := ed_bin op_fdivW (ok_I fun i j k h => by unfold gDiv at h; have h2 := of_ite2 h; exact h2) ha hb
theorem ed_mod (ha : ED X a f) (hb : ED X b g) : ED X (.BinOp a .Mod b pos) (dBin pMod f g) := ed_bin op_mod (ok_I fun i j k h => by unfold gMod at h; have h2 := of_ite2 h; exact h2) ha hb
theorem ed_pow (ha : ED X a f) (hb : ED X b g) : ED X (.BinOp a .Pow b pos) (dBin pPow f g) := ed_bin op_pow (ok_I fun i j k h => by unfold gPow at h; have h2 := of_ite2 h; exact ⟨⟨h2.1.1, h2.1.2.1, by have := h2.1.2.2; omega⟩, h2.2⟩) ha hb
def pNeg : P1 := fun x S => match x with
  | .int i => some (.int (-i), S)
  | _ => none
end
/-! ### + and * over more kinds -/
def pAdd : P2 := fun x y S => match x, y with
  | .int i, .int j => some (.int (i + j), S)
  | .str a, .str b => if a.length + b.length ≤ sizeLine then some (.str (a ++ b), S) else none
  | .tup xs, .tup ys => if xs.length + ys.length ≤ sizeLine then some (.tup (xs ++ ys), S) else none
  | x, y => (match asT S x, asT S y with
    | some xs, some ys => if xs.length + ys.length ≤ sizeLine then some (.lst .own (xs ++ ys), S) else none
    | _, _ => none)
def pAddM : P2 := fun x y S => match asT S x, asT S y with
  | some xs, some ys => if xs.length + ys.length ≤ sizeLine then some (.loc S.length, S ++ [.lst (xs ++ ys)]) else none
  | _, _ => none
abbrev rAddAll (K : PySem.W.Frag) : R2 := fun x y H Q => (rI0 fun i j => .int (i + j)) x y H Q ∨ (fun x y H Q => (fun x y H Q => ∃ i j, x = .str i ∧ y = .str j ∧ i.length + j.length ≤ sizeLine ∧ Q (.str (i ++ j)) H) x y H Q ∨ (fun x y H Q => rCat x y H Q ∨ rCatA K x y H Q) x y H Q) x y H Q
theorem op_addAll {X : Cx} : OpR X (binaryOp .Add) (rAddAll X.K) := op_add.or (op_add_str.or (op_cat.or op_catA))
theorem ok_add {K : PySem.W.Frag} : Ok2 K pAdd (rAddAll K) := fun F S H x y vx vy d S' Q hk R rx ry hp hq => by
  unfold pAdd at hp
  split at hp
  · cases hp
    exact .inl ⟨_, _, rx, ry, hq F H _ (.refl F) R rfl⟩
  · obtain ⟨h1, h2⟩ := of_ite hp
    cases h2
    exact .inr (.inl ⟨_, _, rx, ry, h1, hq F H _ (.refl F) R rfl⟩)
  · rename_i xs ys
    obtain ⟨h1, h2⟩ := of_ite hp
    cases h2
    obtain ⟨a, us, rfl, sa, ra⟩ := tup_sq R rx
    obtain ⟨b, ws, rfl, sb, rb⟩ := tup_sq R ry
    rw [hk] at sa sb
    refine .inr (.inr (.inr ⟨a, b, us, ws, rfl, rfl, sa, sb, by rw [← ra.length, ← rb.length]; exact h1, fun e => ?_, fun n e => ?_, fun n1 n2 => new_tup R (ra.append rb) hq⟩))
    · have e2 : xs = [] := List.eq_nil_of_length_eq_zero (by rw [ra.length, e]; rfl)
      subst e2
      exact hq F H _ (.refl F) R ry
    · have e2 : ys = [] := List.eq_nil_of_length_eq_zero (by rw [rb.length, e]; rfl)
      subst e2
      rw [List.append_nil] at hq
      exact hq F H _ (.refl F) R rx
  · split at hp
    · rename_i xs ys h1 h2
      obtain ⟨h3, h4⟩ := of_ite hp
      cases h4
      obtain ⟨a, us, rfl, sa, ra⟩ := asT_sq R rx h1
      obtain ⟨b, ws, rfl, sb, rb⟩ := asT_sq R ry h2
      exact .inr (.inr (.inl ⟨a, b, us, ws, rfl, rfl, sa, sb, by rw [← ra.length, ← rb.length]; exact h3, new_lst R (ra.append rb) hq⟩))
    · cases hp
def repD (xs : List DV) (k : Nat) : List DV := (List.replicate k xs).flatten
def pMul : P2 := fun x y S => match x, y with
  | .int i, .int j => (match gMul i j with
    | some k => some (.int k, S)
    | none => none)
  | x, .int k => (match asT S x with
    | some xs => if k.natAbs < 9223372036854775808 ∧ xs.length * k.toNat ≤ sizeLine then some (.lst .own (repD xs k.toNat), S) else none
    | none => none)
  | _, _ => none
theorem RelL.rep {F : Fm} {ds : List DV} {vs : List V} (r : RelL F ds vs) : ∀ k : Nat, RelL F (repD ds k) (List.replicate k vs).flatten
  | 0 => rfl
  | k + 1 => by
    unfold repD
    rw [List.replicate_succ, List.replicate_succ, List.flatten_cons, List.flatten_cons]
    exact r.append (RelL.rep r k)
def CMulA (i j : Int) : Prop := CMul i j ∨ CMulW i j
theorem gMul_ok {i j : Int} (h : (i.natAbs < 18446744073709551616 ∨ j.natAbs < 18446744073709551616) ∨ i.natAbs.log2 + j.natAbs.log2 < 1000000) : CMulA i j := by
  rcases h with (h | h) | h
  · exact .inl (.inl ⟨by omega, by omega⟩)
  · exact .inl (.inr ⟨by omega, by omega⟩)
  · exact .inr h
theorem op_mulA {X : Cx} : OpR X (binaryOp .Mult) (rI CMulA fun i j => .int (i * j)) := opI fun _ _ _ _ _ _ _ hc q => mul_int q (hc.elim CMul.ok CMulW.ok)
abbrev rMulAll : R2 := fun x y H Q => (rI CMulA fun i j => .int (i * j)) x y H Q ∨ rRep x y H Q
theorem op_mulAll {X : Cx} : OpR X (binaryOp .Mult) rMulAll := op_mulA.or op_rep
theorem ok_mul {K : PySem.W.Frag} : Ok2 K pMul rMulAll := fun F S H x y vx vy d S' Q hk R rx ry hp hq => by
  unfold pMul at hp
  split at hp
  · unfold gMul at hp
    split at hp
    · rename_i k hg
      obtain ⟨h1, rfl⟩ := of_ite2 hg
      cases hp
      exact .inl ⟨_, _, rx, ry, gMul_ok h1, hq F H _ (.refl F) R rfl⟩
    · cases hp
  · split at hp
    · rename_i xs h1
      obtain ⟨⟨h2, h4⟩, h5⟩ := of_ite hp
      cases h5
      obtain ⟨a, us, rfl, sa, ra⟩ := asT_sq R rx h1
      have ey : vy = .int _ := ry
      refine .inr ⟨a, _, us, rfl, ey, sa, by omega, by omega, by rw [← ra.length]; exact h4, new_lst R (ra.rep _) hq⟩
    · cases hp
  · cases hp
/-! ### == and != -/
mutual
def toPy : DV → Option PyData
  | .non => some .none
  | .bl b => some (.bool b)
  | .int i => some (.int i)
  | .str s => some (.str s)
  | .tup ds => match toPyL ds with
    | some es => some (.tuple es)
    | none => none
  | .lst _ ds => match toPyL ds with
    | some es => some (.list es)
    | none => none
  | _ => none
def toPyL : List DV → Option (List PyData)
  | [] => some []
  | d :: ds => match toPy d with
    | some e => (match toPyL ds with
      | some es => some (e :: es)
      | none => none)
    | none => none
end
mutual
theorem toPy_dp {F : Fm} {H : Hp} (hg : Same F.G H) (hb : Same F.B H) : ∀ (d : DV) (v : V) (e : PyData), Rel F d v → toPy d = some e → Dp F.K H v e
  | .non, v, e, r, h => by
    cases (show some PyData.none = some e from h)
    rw [show v = .non from r]
    exact .non
  | .bl b, v, e, r, h => by
    cases (show some (PyData.bool b) = some e from h)
    rw [show v = .bl b from r]
    exact .bl b
  | .int b, v, e, r, h => by
    cases (show some (PyData.int b) = some e from h)
    rw [show v = .int b from r]
    exact .int b
  | .str b, v, e, r, h => by
    cases (show some (PyData.str b) = some e from h)
    rw [show v = .str b from r]
    exact .str b
  | .tup ds, v, e, r, h => by
    unfold toPy at h
    split at h
    · rename_i es he
      cases h
      obtain ⟨a, xs, rfl, hs, rl⟩ := r
      exact .tup (SqT.of (hg _ _ hs)) (toPyL_dp hg hb ds xs es rl he)
    · cases h
  | .lst k ds, v, e, r, h => by
    unfold toPy at h
    split at h
    · rename_i es he
      cases h
      cases k with
      | own =>
        obtain ⟨a, xs, rfl, hs, rl⟩ := r
        exact .lst (SqL.of (hg _ _ hs)) (toPyL_dp hg hb ds xs es rl he)
      | bor =>
        obtain ⟨a, xs, rfl, hs, rl⟩ := r
        exact .lst (SqL.of (hs.elim (hb _ _) (hg _ _))) (toPyL_dp hg hb ds xs es rl he)
      | ext =>
        obtain ⟨a, xs, rfl, hs, rl⟩ := r
        exact .lst (sqL_same hg hs) (toPyL_dp hg hb ds xs es rl he)
    · cases h
  | .dik _ _ _, v, e, r, h => by cases (show none = some e from h)
  | .tupx _, v, e, r, h => by cases (show none = some e from h)
  | .dit _ _ _, v, e, r, h => by cases (show none = some e from h)
  | .loc _, v, e, r, h => by cases (show none = some e from h)
theorem toPyL_dp {F : Fm} {H : Hp} (hg : Same F.G H) (hb : Same F.B H) : ∀ (ds : List DV) (vs : List V) (es : List PyData), RelL F ds vs → toPyL ds = some es → DpAll F.K H vs es
  | [], vs, es, r, h => by
    cases (show some ([] : List PyData) = some es from h)
    rw [show vs = [] from r]
    exact .nil
  | d :: ds, vs, es, r, h => by
    obtain ⟨x, xr, rfl, h1, h2⟩ := r
    unfold toPyL at h
    split at h
    · rename_i e he
      split at h
      · rename_i es' hes
        cases h
        exact .cons (toPy_dp hg hb d x e h1 he) (toPyL_dp hg hb ds xr es' h2 hes)
      · cases h
    · cases h
end
def scD : DV → DV → Option Bool
  | .non, .non => some true
  | .non, .int _ => some false
  | .int _, .non => some false
  | .non, .str _ => some false
  | .str _, .non => some false
  | .non, .bl _ => some false
  | .bl _, .non => some false
  | .int i, .int j => some (decide (i = j))
  | .bl i, .bl j => some (decide (i = j))
  | .str i, .str j => some (decide (i = j))
  | .int _, .str _ => some false
  | .str _, .int _ => some false
  | .bl _, .str _ => some false
  | .str _, .bl _ => some false
  | _, _ => none
def eqDeep (S : Sto) (x y : DV) : Option Bool := match cpD true S x, cpD true S y with
  | some x', some y' => (match toPy x', toPy y' with
    | some d, some e => if SeqAt.shaped d = true ∧ SeqAt.shaped e = true then some (PyData.eqv d e) else none
    | _, _ => none)
  | _, _ => none
def eqD (S : Sto) (x y : DV) : Option Bool := match scD x y with
  | some b => some b
  | none => eqDeep S x y
def pEq (neg : Bool) : P2 := fun x y S => match eqD S x y with
  | some b => some (.bl (if neg then !b else b), S)
  | none => none
theorem scD_ok {F : Fm} {x y : DV} {vx vy : V} {b : Bool} (rx : Rel F x vx) (ry : Rel F y vy) (h : scD x y = some b) : scal vx vy = true ∧ decide (vx = vy) = b := by
  have g : ∀ {i j : Int}, decide (V.int i = V.int j) = decide (i = j) := fun {i j} => by
    by_cases q : i = j
    · rw [q, decide_eq_true rfl, decide_eq_true rfl]
    · rw [decide_eq_false q, decide_eq_false fun z => q (V.int.inj z)]
  have g2 : ∀ {i j : Bool}, decide (V.bl i = V.bl j) = decide (i = j) := fun {i j} => by
    by_cases q : i = j
    · rw [q, decide_eq_true rfl, decide_eq_true rfl]
    · rw [decide_eq_false q, decide_eq_false fun z => q (V.bl.inj z)]
  have g3 : ∀ {i j : Str}, decide (V.str i = V.str j) = decide (i = j) := fun {i j} => by
    by_cases q : i = j
    · rw [q, decide_eq_true rfl, decide_eq_true rfl]
    · rw [decide_eq_false q, decide_eq_false fun z => q (V.str.inj z)]
  cases x <;> cases y <;> first
    | (cases h; done)
    | (obtain rfl := (show vx = _ from rx)
       obtain rfl := (show vy = _ from ry)
       cases h
       first
        | exact ⟨rfl, rfl⟩
        | exact ⟨rfl, g⟩
        | exact ⟨rfl, g2⟩
        | exact ⟨rfl, g3⟩)
theorem eqDeep_ok {F : Fm} {S : Sto} {H : Hp} {x y : DV} {vx vy : V} {b : Bool} (R : Rep F S H) (rx : Rel F x vx) (ry : Rel F y vy) (h : eqDeep S x y = some b) : ∃ d e, Dp F.K H vx d ∧ Dp F.K H vy e ∧ SeqAt.shaped d = true ∧ SeqAt.shaped e = true ∧ b = PyData.eqv d e := by
  unfold eqDeep at h
  split at h
  · rename_i x' y' hx hy
    split at h
    · rename_i d e hd he
      obtain ⟨⟨s1, s2⟩, rfl⟩ := of_ite2 h
      have r1 : RelL ⟨F.K, F.G, H, fun _ => none, []⟩ [x'] [vx] := cpL_bor R (ds := [x]) (by unfold cpL mapDL mapDL; rw [show mapD true _ x = some x' from hx]) ⟨vx, [], rfl, rx, rfl⟩
      have r2 : RelL ⟨F.K, F.G, H, fun _ => none, []⟩ [y'] [vy] := cpL_bor R (ds := [y]) (by unfold cpL mapDL mapDL; rw [show mapD true _ y = some y' from hy]) ⟨vy, [], rfl, ry, rfl⟩
      obtain ⟨_, _, e1, r1, _⟩ := r1
      obtain ⟨_, _, e2, r2, _⟩ := r2
      cases e1
      cases e2
      exact ⟨d, e, toPy_dp (F := ⟨F.K, F.G, H, fun _ => none, []⟩) R.g (Same.refl _) x' vx d r1 hd, toPy_dp (F := ⟨F.K, F.G, H, fun _ => none, []⟩) R.g (Same.refl _) y' vy e r2 he, s1, s2, rfl⟩
    · cases h
  · cases h
abbrev rEqAll (K : PySem.W.Frag) : R2 := fun x y H Q => rEq x y H Q ∨ rEqD K x y H Q
abbrev rNeAll (K : PySem.W.Frag) : R2 := fun x y H Q => rNe x y H Q ∨ rNeD K x y H Q
theorem ok_eq {K : PySem.W.Frag} : Ok2 K (pEq false) (rEqAll K) := fun F S H x y vx vy d S' Q hk R rx ry hp hq => by
  unfold pEq at hp
  split at hp
  · rename_i b he
    cases hp
    unfold eqD at he
    split at he
    · rename_i b' hs
      cases he
      obtain ⟨h1, h2⟩ := scD_ok rx ry hs
      exact .inl ⟨h1, by rw [h2]; exact hq F H _ (.refl F) R rfl⟩
    · obtain ⟨d, e, h1, h2, h3, h4, rfl⟩ := eqDeep_ok R rx ry he
      rw [hk] at h1 h2
      exact .inr ⟨d, e, h1, h2, h3, h4, hq F H _ (.refl F) R rfl⟩
  · cases hp
theorem ok_ne {K : PySem.W.Frag} : Ok2 K (pEq true) (rNeAll K) := fun F S H x y vx vy d S' Q hk R rx ry hp hq => by
  unfold pEq at hp
  split at hp
  · rename_i b he
    cases hp
    unfold eqD at he
    split at he
    · rename_i b' hs
      cases he
      obtain ⟨h1, h2⟩ := scD_ok rx ry hs
      exact .inl ⟨h1, by rw [h2]; exact hq F H _ (.refl F) R rfl⟩
    · obtain ⟨d, e, h1, h2, h3, h4, rfl⟩ := eqDeep_ok R rx ry he
      rw [hk] at h1 h2
      exact .inr ⟨d, e, h1, h2, h3, h4, hq F H _ (.refl F) R rfl⟩
  · cases hp

/-! ### other comparisons -/
def pCmp (g : Int → Int → Bool) : P2 := fun x y S => match x, y with
  | .int i, .int j => some (.bl (g i j), S)
  | _, _ => none
abbrev pLt : P2 := pCmp fun i j => decide (i < j)
abbrev pLe : P2 := pCmp fun i j => decide (i ≤ j)
abbrev pGt : P2 := pCmp fun i j => decide (j < i)
abbrev pGe : P2 := pCmp fun i j => decide (j ≤ i)
theorem ok_cmp {K : PySem.W.Frag} {g : Int → Int → Bool} : Ok2 K (pCmp g) (rI0 fun i j => .bl (g i j)) := fun F S H x y vx vy d S' Q hk R rx ry hp hq => by
  unfold pCmp at hp
  split at hp
  · cases hp
    exact ⟨_, _, rx, ry, hq F H _ (.refl F) R rfl⟩
  · cases hp
def isNon : DV → Bool
  | .non => true
  | _ => false
def pIs (neg : Bool) : P2 := fun x y S => match y with
  | .non => some (.bl (if neg then !isNon x else isNon x), S)
  | _ => none
theorem isNon_ok {F : Fm} {x : DV} {v : V} (r : Rel F x v) : decide (v = .non) = isNon x := by
  cases x with
  | non =>
    obtain rfl := (show v = _ from r)
    exact decide_eq_true rfl
  | bl b =>
    obtain rfl := (show v = _ from r)
    exact decide_eq_false fun q => nomatch q
  | int b =>
    obtain rfl := (show v = _ from r)
    exact decide_eq_false fun q => nomatch q
  | str b =>
    obtain rfl := (show v = _ from r)
    exact decide_eq_false fun q => nomatch q
  | tup ds =>
    obtain ⟨a, xs, rfl, _⟩ := r
    exact decide_eq_false fun q => nomatch q
  | lst k ds =>
    cases k <;>
    · obtain ⟨a, xs, rfl, _⟩ := r
      exact decide_eq_false fun q => nomatch q
  | tupx ds =>
    obtain ⟨a, xs, rfl, _⟩ := r
    exact decide_eq_false fun q => nomatch q
  | dik k ks ds =>
    obtain ⟨a, xs, rfl, _⟩ := r
    exact decide_eq_false fun q => nomatch q
  | dit k ks ds =>
    obtain ⟨a, xs, rfl, _⟩ := r
    exact decide_eq_false fun q => nomatch q
  | loc n =>
    obtain ⟨a, _, rfl⟩ := r
    exact decide_eq_false fun q => nomatch q
theorem ok_is {K : PySem.W.Frag} : Ok2 K (pIs false) (fun x y H Q => y = .non ∧ Q (.bl (decide (x = .non))) H) := fun F S H x y vx vy d S' Q hk R rx ry hp hq => by
  unfold pIs at hp
  split at hp
  · cases hp
    exact ⟨ry, by rw [isNon_ok rx]; exact hq F H _ (.refl F) R rfl⟩
  · cases hp
theorem ok_isnot {K : PySem.W.Frag} : Ok2 K (pIs true) (fun x y H Q => y = .non ∧ Q (.bl (!decide (x = .non))) H) := fun F S H x y vx vy d S' Q hk R rx ry hp hq => by
  unfold pIs at hp
  split at hp
  · cases hp
    exact ⟨ry, by rw [isNon_ok rx]; exact hq F H _ (.refl F) R rfl⟩
  · cases hp
/-- flat values: as in «in» over a list or tuple -/
def flD : DV → Bool
  | .non => true
  | .bl _ => true
  | .int _ => true
  | .str _ => true
  | _ => false
def eqF : DV → DV → Bool
  | .non, .non => true
  | .bl a, .bl b => a == b
  | .int a, .int b => a == b
  | .str a, .str b => a == b
  | .bl a, .int b => (if a then 1 else 0) == b
  | .int a, .bl b => a == (if b then 1 else 0)
  | _, _ => false
end Dn

namespace Dn
open PySem PySem.Spec PyProof.Rows L2

theorem PE.or {X : Cx} {e : Expr} {t u : TE} (h : PE X e t) (k : PE X e u) : PE X e (fun σ H Q => t σ H Q ∨ u σ H Q) := ⟨fun pins s σ H Q I w => w.elim (h.run pins s σ H Q I) (k.run pins s σ H Q I)⟩
theorem PT.or {X : Cx} {e : Expr} {t u : TT} (h : PT X e t) (k : PT X e u) : PT X e (fun σ H Q => t σ H Q ∨ u σ H Q) := ⟨fun pins s σ H Q I w => w.elim (h.run pins s σ H Q I) (k.run pins s σ H Q I)⟩
theorem PI.or {X : Cx} {tg e : Expr} {t u : TI} (h : PI X tg e t) (k : PI X tg e u) : PI X tg e (fun σ H Q => t σ H Q ∨ u σ H Q) := ⟨fun pins s σ H Q I w => w.elim (h.run pins s σ H Q I) (k.run pins s σ H Q I)⟩

/-! ### flat data -/
def inD (x : DV) (ds : List DV) : Bool := ds.any fun y => eqF y x
/-! ### dicts -/
def asK (S : Sto) : DV → Option (List Key × List DV)
  | .dik _ ks ds => some (ks, ds)
  | .loc n => match S[n]? with
    | some (.dik ks ds) => some (ks, ds)
    | some (.frz (.dik _ ks ds)) => some (ks, ds)
    | some (.lok ks ds) => some (ks, ds)
    | _ => none
  | _ => none
/-- .. but not of one that is being walked -/
def asK0 (S : Sto) : DV → Option (List Key × List DV)
  | .dik _ ks ds => some (ks, ds)
  | .loc n => match S[n]? with
    | some (.dik ks ds) => some (ks, ds)
    | some (.frz (.dik _ ks ds)) => some (ks, ds)
    | _ => none
  | _ => none
def asKT (S : Sto) : DV → Option (List (List Key) × List DV)
  | .dit _ ks ds => some (ks, ds)
  | .loc n => match S[n]? with
    | some (.dit ks ds) => some (ks, ds)
    | some (.frz (.dit _ ks ds)) => some (ks, ds)
    | some (.lokt ks ds) => some (ks, ds)
    | _ => none
  | _ => none
def asKT0 (S : Sto) : DV → Option (List (List Key) × List DV)
  | .dit _ ks ds => some (ks, ds)
  | .loc n => match S[n]? with
    | some (.dit ks ds) => some (ks, ds)
    | some (.frz (.dit _ ks ds)) => some (ks, ds)
    | _ => none
  | _ => none
def keyD : DV → Option Key
  | .int i => some (.inl i)
  | .str s => some (.inr s)
  | _ => none
def keysD : List DV → Option (List Key)
  | [] => some []
  | d :: ds => match keyD d with
    | some k => (match keysD ds with
      | some ks => some (k :: ks)
      | none => none)
    | none => none
def keyT : DV → Option (List Key)
  | .tup ds => keysD ds
  | _ => none
def lkD {κ : Type} [DecidableEq κ] : List κ → List DV → κ → Option DV
  | k :: ks, d :: ds, j => if k = j then some d else lkD ks ds j
  | _, _, _ => none
def rpG {κ α : Type} [DecidableEq κ] (j : κ) (x : α) : List κ → List α → List α
  | k :: ks, d :: ds => (if k = j then x else d) :: rpG j x ks ds
  | _, _ => []
def hasK {κ : Type} [DecidableEq κ] (ks : List κ) (j : κ) : Bool := ks.any fun k => decide (k = j)
def putKs {κ : Type} [DecidableEq κ] (ks : List κ) (j : κ) : List κ := if hasK ks j = true then ks else ks ++ [j]
def putVs {κ : Type} [DecidableEq κ] (ks : List κ) (ds : List DV) (j : κ) (x : DV) : List DV := if hasK ks j = true then rpG j x ks ds else ds ++ [x]
section
variable {F : Fm} {S : Sto} {H : Hp} {d : DV} {v : V}
theorem asK_ok (R : Rep F S H) (r : Rel F d v) {ks : List Key} {ds : List DV} (h : asK S d = some (ks, ds)) : ∃ a xs, v = .ref a ∧ ks.length = ds.length ∧ Rd H a (.dK (ks.zip xs)) ∧ RelL F ds xs := by
  cases d with
  | dik k es fs =>
    cases (show some (es, fs) = some (ks, ds) from h)
    obtain ⟨a, xs, rfl, hz, h, rl⟩ := r
    exact ⟨a, xs, rfl, hz, .inl (h.elim (R.g _ _) fun h => R.b _ _ h.2), rl⟩
  | loc n =>
    obtain ⟨a, ha, rfl⟩ := r
    unfold asK at h
    simp only at h
    split at h
    · rename_i es fs hc
      cases h
      obtain ⟨⟨xs, hz, e, rl⟩, _⟩ := R.cell n _ a hc ha
      exact ⟨a, xs, rfl, hz, .inl e, rl⟩
    · rename_i k es fs hc
      cases h
      obtain ⟨rl, _⟩ := R.cell n _ a hc ha
      obtain ⟨b, xs, e1, hz, h, rl⟩ := (show Rel F (.dik k ks ds) (.ref a) from rl)
      cases e1
      exact ⟨a, xs, rfl, hz, .inl (h.elim (R.g _ _) fun h => R.b _ _ h.2), rl⟩
    · rename_i es fs hc
      cases h
      obtain ⟨⟨o, xs, hz, e, rl⟩, _⟩ := R.cell n _ a hc ha
      exact ⟨a, xs, rfl, hz, .inr ⟨o, R.p _ _ e⟩, rl⟩
    · cases h
  | _ => cases h
theorem asK0_ok (R : Rep F S H) (r : Rel F d v) {ks : List Key} {ds : List DV} (h : asK0 S d = some (ks, ds)) : ∃ a xs, v = .ref a ∧ ks.length = ds.length ∧ H a = some (.dK (ks.zip xs)) ∧ RelL F ds xs := by
  cases d with
  | dik k es fs =>
    cases (show some (es, fs) = some (ks, ds) from h)
    obtain ⟨a, xs, rfl, hz, h, rl⟩ := r
    exact ⟨a, xs, rfl, hz, h.elim (R.g _ _) fun h => R.b _ _ h.2, rl⟩
  | loc n =>
    obtain ⟨a, ha, rfl⟩ := r
    unfold asK0 at h
    simp only at h
    split at h
    · rename_i es fs hc
      cases h
      obtain ⟨⟨xs, hz, e, rl⟩, _⟩ := R.cell n _ a hc ha
      exact ⟨a, xs, rfl, hz, e, rl⟩
    · rename_i k es fs hc
      cases h
      obtain ⟨rl, _⟩ := R.cell n _ a hc ha
      obtain ⟨b, xs, e1, hz, h, rl⟩ := (show Rel F (.dik k ks ds) (.ref a) from rl)
      cases e1
      exact ⟨a, xs, rfl, hz, h.elim (R.g _ _) fun h => R.b _ _ h.2, rl⟩
    · cases h
  | _ => cases h
theorem asKT_ok (R : Rep F S H) (r : Rel F d v) {ks : List (List Key)} {ds : List DV} (h : asKT S d = some (ks, ds)) : ∃ a xs, v = .ref a ∧ ks.length = ds.length ∧ Rd H a (.dT (ks.zip xs)) ∧ RelL F ds xs := by
  cases d with
  | dit k es fs =>
    cases (show some (es, fs) = some (ks, ds) from h)
    obtain ⟨a, xs, rfl, hz, h, rl⟩ := r
    exact ⟨a, xs, rfl, hz, .inl (h.elim (R.g _ _) fun h => R.b _ _ h.2), rl⟩
  | loc n =>
    obtain ⟨a, ha, rfl⟩ := r
    unfold asKT at h
    simp only at h
    split at h
    · rename_i es fs hc
      cases h
      obtain ⟨⟨xs, hz, e, rl⟩, _⟩ := R.cell n _ a hc ha
      exact ⟨a, xs, rfl, hz, .inl e, rl⟩
    · rename_i k es fs hc
      cases h
      obtain ⟨rl, _⟩ := R.cell n _ a hc ha
      obtain ⟨b, xs, e1, hz, h, rl⟩ := (show Rel F (.dit k ks ds) (.ref a) from rl)
      cases e1
      exact ⟨a, xs, rfl, hz, .inl (h.elim (R.g _ _) fun h => R.b _ _ h.2), rl⟩
    · rename_i es fs hc
      cases h
      obtain ⟨⟨o, xs, hz, e, rl⟩, _⟩ := R.cell n _ a hc ha
      exact ⟨a, xs, rfl, hz, .inr ⟨o, R.p _ _ e⟩, rl⟩
    · cases h
  | _ => cases h
theorem asKT0_ok (R : Rep F S H) (r : Rel F d v) {ks : List (List Key)} {ds : List DV} (h : asKT0 S d = some (ks, ds)) : ∃ a xs, v = .ref a ∧ ks.length = ds.length ∧ H a = some (.dT (ks.zip xs)) ∧ RelL F ds xs := by
  cases d with
  | dit k es fs =>
    cases (show some (es, fs) = some (ks, ds) from h)
    obtain ⟨a, xs, rfl, hz, h, rl⟩ := r
    exact ⟨a, xs, rfl, hz, h.elim (R.g _ _) fun h => R.b _ _ h.2, rl⟩
  | loc n =>
    obtain ⟨a, ha, rfl⟩ := r
    unfold asKT0 at h
    simp only at h
    split at h
    · rename_i es fs hc
      cases h
      obtain ⟨⟨xs, hz, e, rl⟩, _⟩ := R.cell n _ a hc ha
      exact ⟨a, xs, rfl, hz, e, rl⟩
    · rename_i k es fs hc
      cases h
      obtain ⟨rl, _⟩ := R.cell n _ a hc ha
      obtain ⟨b, xs, e1, hz, h, rl⟩ := (show Rel F (.dit k ks ds) (.ref a) from rl)
      cases e1
      exact ⟨a, xs, rfl, hz, h.elim (R.g _ _) fun h => R.b _ _ h.2, rl⟩
    · cases h
  | _ => cases h
theorem keyD_ok {k : Key} (r : Rel F d v) (h : keyD d = some k) : v = kV k := by
  cases d <;> first
    | (cases h; done)
    | (cases h
       exact r)
theorem keysD_ok : ∀ {ds : List DV} {vs : List V} {ks : List Key}, RelL F ds vs → keysD ds = some ks → vs = ks.map kV
  | [], vs, ks, r, h => by
    cases (show some ([] : List Key) = some ks from h)
    exact r
  | d :: ds, vs, ks, r, h => by
    obtain ⟨x, xr, rfl, h1, h2⟩ := r
    unfold keysD at h
    split at h
    · rename_i k hk
      split at h
      · rename_i ks' hks
        cases h
        rw [keyD_ok h1 hk, keysD_ok h2 hks] <;> rfl
      · cases h
    · cases h
theorem lk_ok {κ : Type} [DecidableEq κ] (j : κ) : ∀ {ks : List κ} {ds : List DV} {xs : List V}, RelL F ds xs → (∀ {e : DV}, lkD ks ds j = some e → ∃ x, valV (ks.zip xs) j = some x ∧ Rel F e x) ∧ (ks.length = ds.length → lkD ks ds j = none → valV (ks.zip xs) j = none)
  | [], ds, xs, r => by
    refine ⟨fun {e} h => ?_, fun _ _ => ?_⟩
    · unfold lkD at h
      cases h
    · rw [List.zip_nil_left] <;> rfl
  | k :: ks, [], xs, r => by
    refine ⟨fun {e} h => ?_, fun h => ?_⟩
    · unfold lkD at h
      cases h
    · cases h
  | k :: ks, d :: ds, xs, r => by
    obtain ⟨x, xr, rfl, h1, h2⟩ := r
    obtain ⟨i1, i2⟩ := lk_ok j (ks := ks) h2
    rw [List.zip_cons_cons]
    by_cases q : k = j
    · refine ⟨fun {e} h => ?_, fun _ h => ?_⟩
      · unfold lkD at h
        rw [if_pos q] at h
        cases h
        exact ⟨x, valV_pos q, h1⟩
      · unfold lkD at h
        rw [if_pos q] at h
        cases h
    · refine ⟨fun {e} h => ?_, fun hl h => ?_⟩
      · unfold lkD at h
        rw [if_neg q] at h
        obtain ⟨y, y1, y2⟩ := i1 h
        exact ⟨y, by rw [valV_neg q]; exact y1, y2⟩
      · unfold lkD at h
        rw [if_neg q] at h
        rw [valV_neg q]
        exact i2 (Nat.succ.inj hl) h
end
/-- what a dict has for a key: none: this is no dict or no key -/
def getD (S : Sto) (x k : DV) : Option (Option DV) := match asK S x, keyD k with
  | some (ks, ds), some j => some (lkD ks ds j)
  | _, _ => (match asKT S x, keyT k with
    | some (ks, ds), some j => some (lkD ks ds j)
    | _, _ => none)
theorem getD_ok {F : Fm} {S : Sto} {H : Hp} {x k : DV} {vx vk : V} {o : Option DV} (R : Rep F S H) (rx : Rel F x vx) (rk : Rel F k vk) (h : getD S x k = some o) : ∃ a r, vx = .ref a ∧ DGet H a vk r ∧ (∀ {d}, o = some d → ∃ v, r = some v ∧ Rel F d v) ∧ (o = none → r = none) := by
  unfold getD at h
  split at h
  · rename_i ks ds j h1 h2
    cases h
    obtain ⟨a, xs, rfl, hz, e, rl⟩ := asK_ok R rx h1
    obtain rfl := keyD_ok rk h2
    obtain ⟨i1, i2⟩ := lk_ok (F := F) j (ks := ks) rl
    exact ⟨a, _, rfl, .inl ⟨_, _, e, rfl, rfl⟩, fun {d} q => i1 q, fun q => i2 hz q⟩
  · split at h
    · rename_i ks ds j h1 h2
      cases h
      obtain ⟨a, xs, rfl, hz, e, rl⟩ := asKT_ok R rx h1
      unfold keyT at h2
      split at h2
      · rename_i es
        obtain ⟨b, us, rfl, hH, rb⟩ := tup_at R rk
        obtain rfl := keysD_ok rb h2
        obtain ⟨i1, i2⟩ := lk_ok (F := F) j (ks := ks) rl
        exact ⟨a, _, rfl, .inr ⟨_, _, b, e, rfl, hH, rfl⟩, fun {d} q => i1 q, fun q => i2 hz q⟩
      · cases h2
    · cases h
end Dn

namespace Dn
open PySem PySem.Spec PyProof.Rows L2

/-! ### in, not in -/
def pIn (neg : Bool) : P2 := fun x y S => match y with
  | .str b => (match x with
    | .str a => (match a.cps.toList with
      | [c] => some (.bl (if neg then !decide (c ∈ b.cps.toList) else decide (c ∈ b.cps.toList)), S)
      | _ => none)
    | _ => none)
  | .tup ds => if flD x = true ∧ ds.all flD = true then some (.bl (if neg then !inD x ds else inD x ds), S) else none
  | .tupx ds => if flD x = true ∧ ds.all flD = true then some (.bl (if neg then !inD x ds else inD x ds), S) else none
  | y => (match asL S y with
    | some ds => if flD x = true ∧ ds.all flD = true then some (.bl (if neg then !inD x ds else inD x ds), S) else
      (match cpD true S x, cpL true S ds with
      | some x', some ds' => (match toPy x', toPyL ds' with
        | some d, some es => if SeqAt.shaped d = true ∧ SeqAt.shaped (.list es) = true then some (.bl (if neg then !es.any (fun z => PyData.eqv z d) else es.any (fun z => PyData.eqv z d)), S) else none
        | _, _ => none)
      | _, _ => none)
    | none => (match getD S y x with
      | some o => some (.bl (if neg then !o.isSome else o.isSome), S)
      | none => none))
section
variable {X : Cx} {a b : Expr} {f g : DE} {pos : Pos}
theorem hu1 {k : Nat} {A : Around} (hr : Room k A) : A.units + 1 < cLine := by have := hr.un; omega
theorem hu64 {k : Nat} {A : Around} (hr : Room k A) : A.units + 64 < cLine := by have := hr.un; omega
/-! comparisons in short -/
theorem ed_eq {k : Nat} (hr : Room k X.A) (ha : ED X a f) (hb : ED X b g) : ED X (.Compare a [.Eq] [b] pos) (dBin (pEq false) f g) := ed_cmp (op_eq.or (op_eqD (hu64 hr))) ok_eq ha hb (nomark _)
theorem td_eq {k : Nat} (hr : Room k X.A) (ha : ED X a f) (hb : ED X b g) : TD X (.Compare a [.Eq] [b] pos) (dBin (pEq false) f g) := td_cmp (op_eq.or (op_eqD (hu64 hr))) ok_eq ha hb (nomark _)
theorem td_ne {k : Nat} (hr : Room k X.A) (ha : ED X a f) (hb : ED X b g) : TD X (.Compare a [.NotEq] [b] pos) (dBin (pEq true) f g) := td_cmp (op_ne.or (op_neD (hu64 hr))) ok_ne ha hb (nomark _)
theorem td_lt (ha : ED X a f) (hb : ED X b g) : TD X (.Compare a [.Lt] [b] pos) (dBin pLt f g) := td_cmp op_lt ok_cmp ha hb (nomark _)
theorem td_gt (ha : ED X a f) (hb : ED X b g) : TD X (.Compare a [.Gt] [b] pos) (dBin pGt f g) := td_cmp op_gt ok_cmp ha hb (nomark _)
theorem ed_is (ha : ED X a f) (hb : ED X b g) : ED X (.Compare a [.Is] [b] pos) (dBin (pIs false) f g) := ed_cmp op_isN ok_is ha hb (nomark _)
theorem td_is (ha : ED X a f) (hb : ED X b g) : TD X (.Compare a [.Is] [b] pos) (dBin (pIs false) f g) := td_cmp op_isN ok_is ha hb (nomark _)
theorem td_isnot (ha : ED X a f) (hb : ED X b g) : TD X (.Compare a [.IsNot] [b] pos) (dBin (pIs true) f g) := td_cmp op_notN ok_isnot ha hb (nomark _)
theorem ed_add (ha : ED X a f) (hb : ED X b g) : ED X (.BinOp a .Add b pos) (dBin pAdd f g) := ed_bin op_addAll ok_add ha hb
theorem ed_mul (ha : ED X a f) (hb : ED X b g) : ED X (.BinOp a .Mult b pos) (dBin pMul f g) := ed_bin op_mulAll ok_mul ha hb
end

/-! ### subscripts -/
def atD (ds : List DV) (i : Int) : Option DV := (ixN ds.length i).bind fun j => ds[j]?
theorem atD_ok {F : Fm} {ds : List DV} {xs : List V} {i : Int} {d : DV} (r : RelL F ds xs) (h : atD ds i = some d) : ∃ v, atI xs i = some v ∧ Rel F d v := by
  unfold atD at h
  unfold atI
  rw [← r.length]
  cases e : ixN ds.length i with
  | none =>
    rw [e] at h
    cases h
  | some j =>
    rw [e] at h
    exact r.get (i := j) h
def pIx : P2 := fun x y S => match y with
  | .int i => (match x with
    | .tup ds => (match atD ds i with
      | some d => some (d, S)
      | none => none)
    | .tupx ds => (match atD ds i with
      | some d => some (d, S)
      | none => none)
    | .str s => if s.length ≤ sizeLine then (match atI s.cps.toList i with
      | some c => some (.str ⟨#[c]⟩, S)
      | none => none) else none
    | x => (match asL S x with
      | some ds => (match atD ds i with
        | some d => some (d, S)
        | none => none)
      | none => (match getD S x y with
        | some (some d) => some (d, S)
        | _ => none)))
  | y => (match getD S x y with
    | some (some d) => some (d, S)
    | _ => none)
abbrev rDIx : R2 := fun x y H Q => ∃ a v, x = .ref a ∧ DGet H a y (some v) ∧ Q v H
theorem ix_dict {X : Cx} (hu : X.A.units + 1 < cLine) : IxR X rDIx := by
  intro value slice pins s σ H x y v u Q I rx ry h hs
  obtain ⟨a, z, rfl, g, q⟩ := h
  obtain rfl : v = Value.ref a := rx
  have hT := dict_typeIs I g
  have hget : wpAny (model X.prog X.w) X.A (getItem (.ref a) u) (EP X pins σ Q) X.xe s := d_getItem hu I g ry fun w' s3 I3 rw' => ⟨z, H, I3, rw', q⟩
  unfold subscriptTail
  refine wpAny_bind ?_
  rw [getitemInPython_of_ne hT.not_modules]
  refine wpAny_bind (wpAny_specialOf hT PySem.F.slot_dict_getitem.lookup ?_)
  have fin : wpAny (model X.prog X.w) X.A (subscripted slice false (.ref a) u) (fun r s₃ => wpAny (model X.prog X.w) X.A (letTemporaryGo value (.ref a) r >>= fun _ => pure r) (EP X pins σ Q) X.xe s₃) X.xe s := by
    rw [hs]
    exact wpAny_operating (wpAny_mono hget (fun r s₃ h₃ => wpAny_bind (wpAny_letTemporaryGo (wpAny_pure h₃))) fun _ _ x => x)
  first
    | exact wpAny_pure (wpAny_bind fin)
    | exact wpAny_bind (wpAny_pure (wpAny_bind fin))
    | exact wpAny_bind fin
theorem ok_ix {K : PySem.W.Frag} : Ok2 K pIx (fun x y H Q => rIx K x y H Q ∨ rDIx x y H Q) := fun F S H x y vx vy d S' Q hk R rx ry hp hq => by
  have dict : ∀ {o : Option DV}, getD S x y = some o → (∀ e, o = some e → e = d) → S' = S → o.isSome = true → rDIx vx vy H Q := fun {o} h1 h2 h3 h4 => by
    subst h3
    obtain ⟨a, r, rfl, hg, i1, _⟩ := getD_ok R rx ry h1
    cases o with
    | none => cases h4
    | some e =>
      obtain ⟨v, rfl, e2⟩ := i1 rfl
      have := h2 e rfl
      subst this
      exact ⟨a, v, rfl, hg, hq F H _ (.refl F) R e2⟩
  unfold pIx at hp
  split at hp
  · rename_i i
    split at hp
    · split at hp
      · rename_i e he
        cases hp
        obtain ⟨a, xs, rfl, hs, rl⟩ := tup_sq R rx
        rw [hk] at hs
        obtain ⟨v, e1, e2⟩ := atD_ok rl he
        exact .inl (.inr (.inl ⟨a, xs, i, v, rfl, ry, hs, e1, hq F H _ (.refl F) R e2⟩))
      · cases hp
    · split at hp
      · rename_i e he
        cases hp
        obtain ⟨a, xs, rfl, hs, rl⟩ := tupx_sq R rx
        rw [hk] at hs
        obtain ⟨v, e1, e2⟩ := atD_ok rl he
        exact .inl (.inr (.inl ⟨a, xs, i, v, rfl, ry, hs, e1, hq F H _ (.refl F) R e2⟩))
      · cases hp
    · obtain ⟨h1, hp⟩ := of_ite hp
      split at hp
      · rename_i c hc
        cases hp
        exact .inl (.inr (.inr ⟨_, i, c, rx, ry, h1, hc, hq F H _ (.refl F) R rfl⟩))
      · cases hp
    · split at hp
      · rename_i ds hL
        split at hp
        · rename_i e he
          cases hp
          obtain ⟨a, xs, rfl, hs, rl⟩ := asL_sq R rx hL
          rw [hk] at hs
          obtain ⟨v, e1, e2⟩ := atD_ok rl he
          exact .inl (.inl ⟨a, xs, i, v, rfl, ry, hs, e1, hq F H _ (.refl F) R e2⟩)
        · cases hp
      · split at hp
        · rename_i e he
          cases hp
          exact .inr (dict he (fun e q => (Option.some.inj q).symm) rfl rfl)
        · cases hp
  · split at hp
    · rename_i e he
      cases hp
      exact .inr (dict he (fun e q => (Option.some.inj q).symm) rfl rfl)
    · cases hp
section
variable {X : Cx} {a b e : Expr} {f g : DE} {pos : Pos}
theorem ed_ix {k : Nat} (hr : Room k X.A) (ha : ED X a f) (hb : ED X b g) (hs : PlainIx b) : ED X (.Subscript a b pos) (dBin pIx f g) :=
  .of (pe_ix (IxR.or ix_seq (ix_dict (hu1 hr))) ha.pe hb.pe hs) fun F S H ρ σ d S' Q hk R rr hf hq => bin_go ok_ix hk R rr hf hq

/-! ### slices -/
def cutD (ds : List DV) (lo hi : Option Int) : List DV := (ds.drop (HT.sIx ds.length 0 lo)).take (HT.sIx ds.length ds.length hi - HT.sIx ds.length 0 lo)
theorem cutD_ok {F : Fm} {ds : List DV} {xs : List V} {lo hi : Option Int} (r : RelL F ds xs) : RelL F (cutD ds lo hi) (cutV xs lo hi) := by
  unfold cutD cutV
  rw [r.length]
  exact (r.drop _).take _
abbrev DO := Ev → Sto → Option (Option Int × Sto)
def oNone : DO := fun _ S => some (none, S)
def oSome (f : DE) : DO := fun ρ S => match f ρ S with
  | some (.int i, S1) => some (some i, S1)
  | _ => none
structure OD (X : Cx) (e : Option Expr) (t : TO) (f : DO) : Prop where
  po : PO X e t
  go : ∀ F S H ρ σ o S' (Q : Option Int → Hp → Prop), F.K = X.K → Rep F S H → RelE F ρ σ → f ρ S = some (o, S') → (∀ F' H', Le F F' → F'.K = X.K → Rep F' S' H' → RelE F' ρ σ → Q o H') → t σ H Q
theorem od_some (h : ED X e f) : OD X (some e) (tPart (rdE X.K f)) (oSome f) := ⟨po_some h.pe, fun F S H ρ σ o S' Q hk R rr hf hq => by
  unfold oSome at hf
  split at hf
  · rename_i i S1 h1
    cases hf
    exact rdE.go hk R rr h1 fun F1 H1 v le hk1 R1 r1 rv => ⟨i, rv, hq F1 H1 le hk1 R1 r1⟩
  · cases hf⟩
def pSl (x : DV) (lo hi : Option Int) (S : Sto) : Option (DV × Sto) := match x with
  | .tup ds => some (.tup (cutD ds lo hi), S)
  | .str s => if s.length ≤ sizeLine then some (.str (cutS s lo hi), S) else none
  | x => (match asL S x with
    | some ds => some (.lst .own (cutD ds lo hi), S)
    | none => none)
def dSl (p : DV → Option Int → Option Int → Sto → Option (DV × Sto)) (f : DE) (lo hi : DO) : DE := fun ρ S => match f ρ S with
  | some (x, S1) => (match lo ρ S1 with
    | some (l, S2) => (match hi ρ S2 with
      | some (u, S3) => p x l u S3
      | none => none)
    | none => none)
  | none => none
def OkSl (K : PySem.W.Frag) (p : DV → Option Int → Option Int → Sto → Option (DV × Sto)) (r : V → Option Int → Option Int → Hp → VK → Prop) : Prop :=
  ∀ F S H x vx lo hi d S' Q, F.K = K → Rep F S H → Rel F x vx → p x lo hi S = some (d, S') → PostE F S' d Q → r vx lo hi H Q
theorem sl_go {K : PySem.W.Frag} {p : DV → Option Int → Option Int → Sto → Option (DV × Sto)} {r : V → Option Int → Option Int → Hp → VK → Prop} {lo hi : Option Expr} {tl th : TO} {l u : DO} (hp : OkSl X.K p r) (h1 : OD X lo tl l) (h2 : OD X hi th u) {F : Fm} {S S' : Sto} {H : Hp} {ρ : Ev} {σ : L2.St} {d : DV} {Q : VK}
    (hk : F.K = X.K) (R : Rep F S H) (rr : RelE F ρ σ) (hf : dSl p f l u ρ S = some (d, S')) (hq : PostE F S' d Q) : tSl r (rdE X.K f) tl th σ H Q := by
  unfold dSl at hf
  split at hf
  · rename_i x S1 e1
    split at hf
    · rename_i l1 S2 e2
      split at hf
      · rename_i u1 S3 e3
        exact rdE.go hk R rr e1 fun F1 H1 v le hk1 R1 r1 rv => h1.go F1 S1 H1 ρ σ l1 S2 _ hk1 R1 r1 e2 fun F2 H2 le2 hk2 R2 r2 => h2.go F2 S2 H2 ρ σ u1 S3 _ hk2 R2 r2 e3 fun F3 H3 le3 hk3 R3 r3 =>
          hp F3 S3 H3 x v l1 u1 d S' Q hk3 R3 (rv.le (le2.trans le3)) hf (hq.le ((le.trans le2).trans le3))
      · cases hf
    · cases hf
  · cases hf
theorem ok_sl {K : PySem.W.Frag} : OkSl K pSl (fun x lo hi H Q => rSlL K x lo hi H Q ∨ (fun x lo hi H Q => rSlA K x lo hi H Q ∨ rSlS x lo hi H Q) x lo hi H Q) := fun F S H x vx lo hi d S' Q hk R rx hp hq => by
  unfold pSl at hp
  split at hp
  · rename_i ds
    cases hp
    obtain ⟨a, xs, e, hs, rl⟩ := tup_sq R rx
    rw [hk] at hs
    refine .inr (.inl ⟨a, xs, e, hs, fun hw => ?_, fun _ => new_tup R (cutD_ok rl) hq⟩)
    refine hq F H _ (.refl F) R ?_
    have e2 : cutD ds lo hi = ds := by
      unfold cutD
      rw [rl.length, hw.1, hw.2]
      rw [List.drop_zero, Nat.sub_zero, ← rl.length, List.take_length]
    rw [e2, ← e]
    exact rx
  · obtain ⟨h1, h2⟩ := of_ite hp
    cases h2
    exact .inr (.inr ⟨_, rx, h1, hq F H _ (.refl F) R rfl⟩)
  · split at hp
    · rename_i ds hL
      cases hp
      obtain ⟨a, xs, rfl, hs, rl⟩ := asL_sq R rx hL
      rw [hk] at hs
      exact .inl ⟨a, xs, rfl, hs, new_lst R (cutD_ok rl) hq⟩
    · cases hp
theorem ed_sl {lo hi : Option Expr} {tl th : TO} {l u : DO} {p2 : Pos} (ha : ED X a f) (h1 : OD X lo tl l) (h2 : OD X hi th u) : ED X (.Subscript a (.Slice lo hi none p2) pos) (dSl pSl f l u) :=
  .of (pe_slice (sl_list.or (sl_tupA.or sl_str)) ha.pe h1.po h2.po) fun F S H ρ σ d S' Q hk R rr hf hq => sl_go (K := X.K) ok_sl h1 h2 hk R rr hf hq
end
end Dn

namespace Dn
open PySem PySem.Spec PyProof.Rows L2

/-! ### built-ins -/
def pLen : PL := fun xs S => match xs with
  | [.str s] => if s.length ≤ sizeLine then some (.int s.length, S) else none
  | [.tup ds] => some (.int ds.length, S)
  | [.tupx ds] => some (.int ds.length, S)
  | [x] => (match asL S x with
    | some ds => some (.int ds.length, S)
    | none => (match asK0 S x with
      | some (ks, _) => some (.int ks.length, S)
      | none => (match asKT0 S x with
        | some (ks, _) => some (.int ks.length, S)
        | none => none)))
  | _ => none
abbrev rLenAll (K : PySem.W.Frag) : List V → Hp → VK → Prop := fun xs H Q => (∃ x n, xs = [x] ∧ LenV K x H n ∧ Q (.int n) H) ∨ (fun xs H Q => (∃ a kvs, xs = [V.ref a] ∧ H a = some (.dK kvs) ∧ Q (.int kvs.length) H) ∨ rLenT xs H Q) xs H Q
theorem call_lenAll {X : Cx} : CallR X (.builtin "len") (rLenAll X.K) := call_len.or (call_lenD.or call_len_dT)
theorem ok_len {K : PySem.W.Frag} : OkL K pLen (rLenAll K) := fun F S H xs vs d S' Q hk R r hp hq => by
  unfold pLen at hp
  split at hp
  · rename_i s
    obtain ⟨h1, h2⟩ := of_ite hp
    cases h2
    obtain ⟨v, _, rfl, rv, e⟩ := r
    obtain rfl := (show _ = [] from e)
    exact .inl ⟨v, s.length, rfl, by rw [show v = .str s from rv]; exact ⟨h1, rfl⟩, hq F H _ (.refl F) R rfl⟩
  · rename_i ds
    cases hp
    obtain ⟨v, _, rfl, rv, e⟩ := r
    obtain rfl := (show _ = [] from e)
    obtain ⟨a, us, rfl, hs, rl⟩ := tup_sq R rv
    rw [hk] at hs
    exact .inl ⟨_, us.length, rfl, .inr ⟨us, hs, rfl⟩, by rw [← rl.length]; exact hq F H _ (.refl F) R rfl⟩
  · rename_i ds
    cases hp
    obtain ⟨v, _, rfl, rv, e⟩ := r
    obtain rfl := (show _ = [] from e)
    obtain ⟨a, us, rfl, hs, rl⟩ := tupx_sq R rv
    rw [hk] at hs
    exact .inl ⟨_, us.length, rfl, .inr ⟨us, hs, rfl⟩, by rw [← rl.length]; exact hq F H _ (.refl F) R rfl⟩
  · obtain ⟨v, _, rfl, rv, e⟩ := r
    obtain rfl := (show _ = [] from e)
    split at hp
    · rename_i ds hL
      cases hp
      obtain ⟨a, us, rfl, hs, rl⟩ := asL_sq R rv hL
      rw [hk] at hs
      exact .inl ⟨_, us.length, rfl, .inl ⟨us, hs, rfl⟩, by rw [← rl.length]; exact hq F H _ (.refl F) R rfl⟩
    · split at hp
      · rename_i ks ds hK
        cases hp
        obtain ⟨a, us, rfl, hz, hs, rl⟩ := asK0_ok R rv hK
        refine .inr (.inl ⟨a, _, rfl, hs, ?_⟩)
        have e : (ks.zip us).length = ks.length := by
          rw [List.length_zip, ← rl.length, hz, Nat.min_self]
        rw [e]
        exact hq F H _ (.refl F) R rfl
      · split at hp
        · rename_i ks ds hK
          cases hp
          obtain ⟨a, us, rfl, hz, hs, rl⟩ := asKT0_ok R rv hK
          refine .inr (.inr ⟨a, _, rfl, hs, ?_⟩)
          have e : (ks.zip us).length = ks.length := by
            rw [List.length_zip, ← rl.length, hz, Nat.min_self]
          rw [e]
          exact hq F H _ (.refl F) R rfl
        · cases hp
  · cases hp
/-- int(..) of an int, a truth, a text -/
def pInt : PL := fun xs S => match xs with
  | [.int i] => some (.int i, S)
  | [.bl b] => some (.int (if b then 1 else 0), S)
  | [.str a] => if a.length ≤ 640 then (match PySem.intText? a with
    | some n => some (.int n, S)
    | none => none) else none
  | _ => none
theorem rel1 {F : Fm} {d : DV} {v : V} (h : Rel F d v) : RelL F [d] [v] := ⟨v, [], rfl, h, rfl⟩
theorem one {F : Fm} {d : DV} {vs : List V} (r : RelL F [d] vs) : ∃ v, vs = [v] ∧ Rel F d v := by
  obtain ⟨v, _, rfl, rv, e⟩ := r
  obtain rfl := (show _ = [] from e)
  exact ⟨v, rfl, rv⟩
/-- list(..), tuple(..) -/
def kdv : Key → DV
  | .inl i => .int i
  | .inr s => .str s
theorem kdv_rel {F : Fm} : ∀ ks : List Key, RelL F (ks.map kdv) (ks.map kV)
  | [] => rfl
  | .inl i :: ks => ⟨_, _, rfl, rfl, kdv_rel ks⟩
  | .inr i :: ks => ⟨_, _, rfl, rfl, kdv_rel ks⟩
def itemsD (S : Sto) (x : DV) : Option (List DV) := match x with
  | .tup ds => some ds
  | .tupx ds => some ds
  | x => asL S x
def pList : PL := fun xs S => match xs with
  | [x] => (match itemsD S x with
    | some ds => some (.lst .own ds, S)
    | none => (match asK0 S x with
      | some (ks, _) => some (.lst .own (ks.map kdv), S)
      | none => (match asKT S x with
        | some (ks, _) => some (.lst .own (ks.map fun k => .tup (k.map kdv)), S)
        | none => none)))
  | _ => none
def pListM : PL := fun xs S => match xs with
  | [x] => (match itemsD S x with
    | some ds => some (.loc S.length, S ++ [.lst ds])
    | none => (match asK0 S x with
      | some (ks, _) => some (.loc S.length, S ++ [.lst (ks.map kdv)])
      | none => (match asKT S x with
        | some (ks, _) => some (.loc S.length, S ++ [.lst (ks.map fun k => .tup (k.map kdv))])
        | none => none)))
  | _ => none
def pTuple : PL := fun xs S => match xs with
  | [.tup ds] => some (.tup ds, S)
  | [x] => (match asL S x with
    | some ds => some (.tup ds, S)
    | none => none)
  | _ => none
theorem itemsD_sq {F : Fm} {S : Sto} {H : Hp} {x : DV} {v : V} {ds : List DV} (R : Rep F S H) (r : Rel F x v) (h : itemsD S x = some ds) : ∃ a xs, v = .ref a ∧ (SqL F.K H a xs ∨ SqT F.K H a xs) ∧ RelL F ds xs := by
  unfold itemsD at h
  split at h
  · cases h
    obtain ⟨a, us, rfl, hs, rl⟩ := tup_sq R r
    exact ⟨a, us, rfl, .inr hs, rl⟩
  · cases h
    obtain ⟨a, us, rfl, hs, rl⟩ := tupx_sq R r
    exact ⟨a, us, rfl, .inr hs, rl⟩
  · obtain ⟨a, us, rfl, hs, rl⟩ := asL_sq R r h
    exact ⟨a, us, rfl, .inl hs, rl⟩
abbrev rListAll (K : PySem.W.Frag) : List V → Hp → VK → Prop := fun xs H Q => ((∃ p ys, xs = [.ref p] ∧ (SqL K H p ys ∨ SqT K H p ys) ∧ ∀ l, H l = none → Q (.ref l) (upd H l (.lst ys))) ∨ rListD xs H Q) ∨ ∃ d kvs, xs = [V.ref d] ∧ Rd H d (.dT kvs) ∧ ∀ p bs, H p = none → IsKeys H kvs bs → Q (.ref p) (upd H p (.lst (bs.map V.ref)))
theorem call_listAll {X : Cx} (hc : X.calm = true) : CallR X (.type "list") (rListAll X.K) := (call_list_of.or (call_list_dK hc)).or (call_list_dT hc)
/-- a tuple that stands is data -/
theorem keys_rel {F : Fm} {S : Sto} {H : Hp} (R : Rep F S H) : ∀ {ks : List (List Key)} {us : List V} {bs : List Addr}, ks.length = us.length → IsKeys H (ks.zip us) bs → RelL F (ks.map fun k => DV.tup (k.map kdv)) (bs.map V.ref)
  | [], us, bs, _, h => by
    rw [List.zip_nil_left] at h
    cases h
    exact rfl
  | k :: ks, [], bs, hz, h => by cases hz
  | k :: ks, u :: us, bs, hz, h => by
    rw [List.zip_cons_cons] at h
    cases h with
    | cons h1 h2 => exact ⟨_, _, rfl, ⟨_, _, rfl, R.tup _ _ h1, kdv_rel k⟩, keys_rel R (Nat.succ.inj hz) h2⟩
theorem zip_keys {κ : Type} : ∀ {ks : List κ} {us : List V}, ks.length = us.length → (ks.zip us).map (·.1) = ks
  | [], _, _ => by rw [List.zip_nil_left] <;> rfl
  | k :: ks, [], h => by cases h
  | k :: ks, u :: us, h => by
    rw [List.zip_cons_cons, List.map_cons, zip_keys (Nat.succ.inj h)]
theorem ok_list {K : PySem.W.Frag} : OkL K pList (rListAll K) := fun F S H xs vs d S' Q hk R r hp hq => by
  unfold pList at hp
  split at hp
  · rename_i x
    obtain ⟨v, rfl, rv⟩ := one r
    split at hp
    · rename_i ds hL
      cases hp
      obtain ⟨a, us, rfl, hs, rl⟩ := itemsD_sq R rv hL
      rw [hk] at hs
      exact .inl (.inl ⟨a, us, rfl, hs, new_lst R rl hq⟩)
    · split at hp
      · rename_i ks ds hK
        cases hp
        obtain ⟨a, us, rfl, hz, hs, rl⟩ := asK0_ok R rv hK
        refine .inl (.inr ⟨a, _, rfl, hs, ?_⟩)
        have e : (ks.zip us).map (fun kv => kV kv.1) = ks.map kV := by
          have := zip_keys (ks := ks) (us := us) (hz.trans rl.length)
          rw [← this, List.map_map, this] <;> rfl
        rw [e]
        exact new_lst R (kdv_rel ks) hq
      · split at hp
        · rename_i ks ds hK
          cases hp
          obtain ⟨a, us, rfl, hz, hs, rl⟩ := asKT_ok R rv hK
          exact .inr ⟨a, _, rfl, hs, fun p bs hp hk => new_lst R (keys_rel R (hz.trans rl.length) hk) hq p hp⟩
        · cases hp
  · cases hp
theorem ok_listM {K : PySem.W.Frag} : OkL K pListM (rListAll K) := fun F S H xs vs d S' Q hk R r hp hq => by
  unfold pListM at hp
  split at hp
  · rename_i x
    obtain ⟨v, rfl, rv⟩ := one r
    split at hp
    · rename_i ds hL
      cases hp
      obtain ⟨a, us, rfl, hs, rl⟩ := itemsD_sq R rv hL
      rw [hk] at hs
      exact .inl (.inl ⟨a, us, rfl, hs, new_lstM R rl hq⟩)
    · split at hp
      · rename_i ks ds hK
        cases hp
        obtain ⟨a, us, rfl, hz, hs, rl⟩ := asK0_ok R rv hK
        refine .inl (.inr ⟨a, _, rfl, hs, ?_⟩)
        have e : (ks.zip us).map (fun kv => kV kv.1) = ks.map kV := by
          have := zip_keys (ks := ks) (us := us) (hz.trans rl.length)
          rw [← this, List.map_map, this] <;> rfl
        rw [e]
        exact new_lstM R (kdv_rel ks) hq
      · split at hp
        · rename_i ks ds hK
          cases hp
          obtain ⟨a, us, rfl, hz, hs, rl⟩ := asKT_ok R rv hK
          exact .inr ⟨a, _, rfl, hs, fun p bs hp hk => new_lstM R (keys_rel R (hz.trans rl.length) hk) hq p hp⟩
        · cases hp
  · cases hp
abbrev rTupAll (K : PySem.W.Frag) : List V → Hp → VK → Prop := fun xs H Q => ∃ p ys, xs = [.ref p] ∧ ((SqL K H p ys ∧ ∀ l, H l = none → Q (.ref l) (upd H l (.tup ys))) ∨ (SqT K H p ys ∧ Q (.ref p) H))
theorem ok_tuple {K : PySem.W.Frag} : OkL K pTuple (rTupAll K) := fun F S H xs vs d S' Q hk R r hp hq => by
  unfold pTuple at hp
  split at hp
  · rename_i ds
    cases hp
    obtain ⟨v, rfl, rv⟩ := one r
    obtain ⟨a, us, e, hs, rl⟩ := tup_sq R rv
    rw [hk] at hs
    exact ⟨a, us, by rw [e], .inr ⟨hs, by rw [← e]; exact hq F H _ (.refl F) R rv⟩⟩
  · obtain ⟨v, rfl, rv⟩ := one r
    split at hp
    · rename_i ds hL
      cases hp
      obtain ⟨a, us, rfl, hs, rl⟩ := asL_sq R rv hL
      rw [hk] at hs
      exact ⟨a, us, rfl, .inl ⟨hs, new_tup R rl hq⟩⟩
    · cases hp
  · cases hp
/-! isinstance(x, T), T a built-in class -/
inductive Ty7 where
  | non | bool | int | str | list | tuple | dict
  deriving DecidableEq
def Ty7.name : Ty7 → String
  | .non => "NoneType"
  | .bool => "bool"
  | .int => "int"
  | .str => "str"
  | .list => "list"
  | .tuple => "tuple"
  | .dict => "dict"
def isT : Ty7 → Ty7 → Bool
  | .bool, .int => true
  | a, b => decide (a = b)
theorem isT_ok : ∀ a b : Ty7, b ≠ .non → kitB a.name b.name = some (isT a b) := by
  intro a b h
  cases a <;> cases b <;> first | exact absurd rfl h | rfl | decide +kernel
def tyD (S : Sto) : DV → Option Ty7
  | .non => some .non
  | .bl _ => some .bool
  | .int _ => some .int
  | .str _ => some .str
  | .tup _ => some .tuple
  | .lst .own _ => some .list
  | .lst .bor _ => some .list
  | .dik _ _ _ => some .dict
  | .dit _ _ _ => some .dict
  | .loc n => match S[n]? with
    | some (.lst _) => some .list
    | some (.dik _ _) => some .dict
    | some (.dit _ _) => some .dict
    | some (.frz (.lst .own _)) => some .list
    | _ => none
  | _ => none
theorem tyD_ok {F : Fm} {S : Sto} {H : Hp} {d : DV} {v : V} {t : Ty7} (R : Rep F S H) (r : Rel F d v) (h : tyD S d = some t) : TyX F.K H v (.type t.name) := by
  cases d with
  | non =>
    cases h
    obtain rfl := (show v = _ from r)
    exact .base .non
  | bl b =>
    cases h
    obtain rfl := (show v = _ from r)
    exact .base (.bl b)
  | int b =>
    cases h
    obtain rfl := (show v = _ from r)
    exact .base (.int b)
  | str b =>
    cases h
    obtain rfl := (show v = _ from r)
    exact .base (.str b)
  | tup ds =>
    cases h
    obtain ⟨a, xs, rfl, hs, _⟩ := tup_at R r
    exact .base (.tup hs)
  | tupx ds => cases h
  | lst k ds =>
    cases k with
    | own =>
      cases h
      obtain ⟨a, xs, rfl, hs, _⟩ := r
      exact .base (.lst (R.g _ _ hs))
    | bor =>
      cases h
      obtain ⟨a, xs, rfl, hs, _⟩ := r
      exact .base (.lst (hs.elim (R.b _ _) (R.g _ _)))
    | ext => cases h
  | dik k ks ds =>
    cases h
    obtain ⟨a, xs, rfl, _, hs, _⟩ := r
    exact .base (.dK (hs.elim (R.g _ _) fun h => R.b _ _ h.2))
  | dit k ks ds =>
    cases h
    obtain ⟨a, xs, rfl, _, hs, _⟩ := r
    exact .base (.dT (hs.elim (R.g _ _) fun h => R.b _ _ h.2))
  | loc n =>
    obtain ⟨a, ha, rfl⟩ := r
    unfold tyD at h
    simp only at h
    split at h
    · rename_i es hc
      cases h
      obtain ⟨⟨xs, e, rl⟩, _⟩ := R.cell n _ a hc ha
      exact .base (.lst e)
    · rename_i es fs hc
      cases h
      obtain ⟨⟨xs, hz, e, rl⟩, _⟩ := R.cell n _ a hc ha
      exact .base (.dK e)
    · rename_i es fs hc
      cases h
      obtain ⟨⟨xs, hz, e, rl⟩, _⟩ := R.cell n _ a hc ha
      exact .base (.dT e)
    · rename_i es hc
      cases h
      obtain ⟨rl, _⟩ := R.cell n _ a hc ha
      obtain ⟨b, xs, e1, hs, _⟩ := (show Rel F (.lst .own es) (.ref a) from rl)
      cases e1
      exact .base (.lst (R.g _ _ hs))
    · cases h
def dIsi (T : Ty7) (f : DE) : DE := fun ρ S => match f ρ S with
  | some (x, S1) => (match tyD S1 x with
    | some t => some (.bl (isT t T), S1)
    | none => none)
  | none => none
section
variable {X : Cx} {e a b : Expr} {f g : DE} {pos : Pos}
theorem isi_go {T : Ty7} (hT : T ≠ .non) {F : Fm} {S S' : Sto} {H : Hp} {ρ : Ev} {σ : L2.St} {d : DV} {Q : VK} (hk : F.K = X.K) (R : Rep F S H) (rr : RelE F ρ σ) (hf : dIsi T f ρ S = some (d, S')) (hq : PostE F S' d Q) :
    tCB (rIsi X.K) (tCons (rdE X.K f) (tCons (tC (.ty T.name)) tNil)) σ H Q := by
  unfold dIsi at hf
  split at hf
  · rename_i x S1 h1
    split at hf
    · rename_i t ht
      cases hf
      refine rdE.go hk R rr h1 fun F1 H1 v le hk1 R1 r1 rv => ?_
      have ty := tyD_ok R1 rv ht
      rw [hk1] at ty
      exact ⟨v, .ty T.name, .type t.name, .type T.name, isT t T, rfl, .ty _, ty, kit_ty (isT_ok t T hT), hq F1 H1 _ le R1 rfl⟩
    · cases hf
  · cases hf
theorem ed_isi {T : Ty7} (hT : T ≠ .non) (ha : ED X a f) (h : ∀ {t : TE}, PE X a t → PE X e (tCB (rIsi X.K) (tCons t (tCons (tC (.ty T.name)) tNil)))) : ED X e (dIsi T f) :=
  .of (h ha.pe) fun F S H ρ σ d S' Q hk R rr hf hq => isi_go hT hk R rr hf hq
end
/-! min, max, sum, any, all -/
def blsD : List DV → Option (List Bool)
  | [] => some []
  | .bl i :: ds => (match blsD ds with
    | some is => some (i :: is)
    | none => none)
  | _ => none
def strsD : List DV → Option (List Str)
  | [] => some []
  | .str i :: ds => (match strsD ds with
    | some is => some (i :: is)
    | none => none)
  | _ => none
theorem blsD_ok {F : Fm} : ∀ {ds : List DV} {vs : List V} {is : List Bool}, RelL F ds vs → blsD ds = some is → vs = is.map V.bl
  | [], vs, is, r, h => by
    cases (show some ([] : List Bool) = some is from h)
    exact r
  | d :: ds, vs, is, r, h => by
    unfold blsD at h
    split at h
    · rename_i e
      cases e
    · rename_i i ds' e
      cases e
      split at h
      · rename_i js hj
        cases h
        obtain ⟨x, xr, rfl, h1, h2⟩ := r
        rw [blsD_ok h2 hj, show x = .bl i from h1] <;> rfl
      · cases h
    · cases h
theorem strsD_ok {F : Fm} : ∀ {ds : List DV} {vs : List V} {is : List Str}, RelL F ds vs → strsD ds = some is → vs = is.map V.str
  | [], vs, is, r, h => by
    cases (show some ([] : List Str) = some is from h)
    exact r
  | d :: ds, vs, is, r, h => by
    unfold strsD at h
    split at h
    · rename_i e
      cases e
    · rename_i i ds' e
      cases e
      split at h
      · rename_i js hj
        cases h
        obtain ⟨x, xr, rfl, h1, h2⟩ := r
        rw [strsD_ok h2 hj, show x = .str i from h1] <;> rfl
      · cases h
    · cases h
def pAll : PL := fun xs S => match xs with
  | [x] => (match asL S x with
    | some ds => (match blsD ds with
      | some is => some (.bl (is.all id), S)
      | none => none)
    | none => none)
  | _ => none
theorem ok_all {K : PySem.W.Frag} : OkL K pAll (rAll K) := fun F S H xs vs d S' Q hk R r hp hq => by
  unfold pAll at hp
  split at hp
  · obtain ⟨v, rfl, rv⟩ := one r
    split at hp
    · rename_i ds hL
      split at hp
      · rename_i is his
        cases hp
        obtain ⟨a, us, rfl, hs, rl⟩ := asL_sq R rv hL
        rw [hk] at hs
        obtain rfl := blsD_ok rl his
        exact ⟨a, is, rfl, hs, hq F H _ (.refl F) R rfl⟩
      · cases hp
    · cases hp
  · cases hp
end Dn

namespace Dn
open PySem PySem.Spec PyProof.Rows L2

/-! ### methods of lists -/
abbrev PM := DV → List DV → Sto → Option (DV × Sto)
def dMt (p : PM) (f : DE) (fa : DA) : DE := fun ρ S => match f ρ S with
  | some (x, S1) => (match asL S1 x with
    | some _ => (match fa ρ S1 with
      | some (xs, S2) => p x xs S2
      | none => none)
    | none => none)
  | none => none
def OkM (K : PySem.W.Frag) (p : PM) (r : V → List V → Hp → VK → Prop) : Prop := ∀ F S H x vx xs vs d S' Q, F.K = K → Rep F S H → Rel F x vx → RelL F xs vs → p x xs S = some (d, S') → PostE F S' d Q → r vx vs H Q
section
variable {X : Cx} {e a b o : Expr} {f g : DE} {fa : DA} {pos : Pos} {st : Stmt}
theorem mt_go {p : PM} {r : V → List V → Hp → VK → Prop} (hp : OkM X.K p r) {F : Fm} {S S' : Sto} {H : Hp} {ρ : Ev} {σ : L2.St} {d : DV} {Q : VK} (hk : F.K = X.K) (R : Rep F S H) (rr : RelE F ρ σ) (hf : dMt p f fa ρ S = some (d, S')) (hq : PostE F S' d Q) :
    tBM X.K "list" r (rdE X.K f) (rdA X.K fa) σ H Q := by
  unfold dMt at hf
  split at hf
  · rename_i x S1 h1
    split at hf
    · rename_i ds hL
      split at hf
      · rename_i xs S2 h2
        refine rdE.go hk R rr h1 fun F1 H1 v le hk1 R1 r1 rv => ?_
        obtain ⟨l, us, rfl, hs, rl⟩ := asL_sq R1 rv hL
        rw [hk1] at hs
        refine ⟨.inl ⟨rfl, us, hs⟩, rdA.go hk1 R1 r1 h2 fun F2 H2 vs le2 hk2 R2 r2 ra => ?_⟩
        exact hp F2 S2 H2 x _ xs vs d S' Q hk2 R2 (rv.le le2) ra hf (hq.le (le.trans le2))
      · cases hf
    · cases hf
  · cases hf
theorem ed_mt {es : List Expr} {p : PM} {r : V → List V → Hp → VK → Prop} (hp : OkM X.K p r) (ho : ED X o f) (ha : AD X es fa) (h : ∀ {t : TA} {u : TE}, PE X o u → PA X es t → PE X e (tBM X.K "list" r u t)) : ED X e (dMt p f fa) :=
  .of (h ho.pe ha.pa) fun F S H ρ σ d S' Q hk R rr hf hq => mt_go hp hk R rr hf hq
theorem ed_mt0 {p : PM} {r : V → List V → Hp → VK → Prop} (hp : OkM X.K p r) (ho : ED X o f) (h : ∀ {u : TE}, PE X o u → PE X e (tBM0 X.K "list" r u)) : ED X e (dMt p f aNil) :=
  .of (h ho.pe) fun F S H ρ σ d S' Q hk R rr hf hq => by
    unfold dMt at hf
    split at hf
    · rename_i x S1 h1
      split at hf
      · rename_i ds hL
        refine rdE.go hk R rr h1 fun F1 H1 v le hk1 R1 r1 rv => ?_
        obtain ⟨l, us, rfl, hs, rl⟩ := asL_sq R1 rv hL
        rw [hk1] at hs
        exact ⟨.inl ⟨rfl, us, hs⟩, hp F1 S1 H1 x _ [] [] d S' Q hk1 R1 rv rfl hf (hq.le le)⟩
      · cases hf
    · cases hf
end
def pAppend : PM := fun x xs S => match x, xs with
  | .loc n, [y] => (match S[n]? with
    | some (.lst ds) => if ds.length < sizeLine then some (.non, S.set n (.lst (ds ++ [y]))) else none
    | _ => none)
  | _, _ => none
def pClear : PM := fun x xs S => match x, xs with
  | .loc n, [] => (match S[n]? with
    | some (.lst _) => some (.non, S.set n (.lst []))
    | _ => none)
  | _, _ => none
theorem lst_write {F : Fm} {S : Sto} {H : Hp} {n : Nat} {ds es : List DV} {vs us : List V} {a : Addr} {v : V} {d : DV} {Q : VK} (R : Rep F S H) (hc : S[n]? = some (.lst ds)) (ha : F.lm[n]? = some a) (rl : RelL F es us) (rd : Rel F d v) (hq : PostE F (S.set n (.lst es)) d Q) : Q v (upd H a (.lst us)) :=
  hq F _ v (.refl F) (R.write hc rfl ha (fun _ q => nomatch q) rfl ⟨us, upd_same, rl⟩) rd
section
variable {K : PySem.W.Frag}
theorem ok_append : OkM K pAppend rAppend := fun F S H x vx xs vs d S' Q hk R rx rl hp hq => by
  unfold pAppend at hp
  split at hp
  · rename_i n y
    split at hp
    · rename_i ds hc
      obtain ⟨h1, h2⟩ := of_ite hp
      cases h2
      obtain ⟨a, ha, rfl⟩ := rx
      obtain ⟨v, rfl, rv⟩ := one rl
      obtain ⟨⟨us, e, ru⟩, _⟩ := R.cell n _ a hc ha
      exact ⟨a, us, v, rfl, rfl, e, by rw [← ru.length]; exact h1, lst_write (vs := us) R hc ha (us := us ++ [v]) (ru.append (rel1 rv)) (d := .non) (v := .non) rfl hq⟩
    · cases hp
  · cases hp
theorem ok_clear : OkM K pClear rClear := fun F S H x vx xs vs d S' Q hk R rx rl hp hq => by
  unfold pClear at hp
  split at hp
  · rename_i n
    split at hp
    · rename_i ds hc
      cases hp
      obtain ⟨a, ha, rfl⟩ := rx
      obtain rfl := rl.nil
      obtain ⟨⟨us, e, ru⟩, _⟩ := R.cell n _ a hc ha
      exact ⟨a, us, rfl, rfl, e, lst_write (vs := us) R hc ha (us := []) (es := []) rfl (d := .non) (v := .non) rfl hq⟩
    · cases hp
  · cases hp
end

/-! ### methods of texts with one argument -/
def dM1 (p : Str → DV → Sto → Option (DV × Sto)) (f g : DE) : DE := fun ρ S => match f ρ S with
  | some (.str a, S1) => (match g ρ S1 with
    | some (y, S2) => p a y S2
    | none => none)
  | _ => none
section
variable {X : Cx} {e a b o : Expr} {f g : DE} {fa : DA} {pos : Pos} {st : Stmt}
theorem ed_m1 {p : Str → DV → Sto → Option (DV × Sto)} {r : V → List V → Hp → VK → Prop} (hp : ∀ F S H x y vy d S' Q, F.K = X.K → Rep F S H → Rel F y vy → p x y S = some (d, S') → PostE F S' d Q → r (.str x) [vy] H Q)
    (ho : ED X o f) (hb : ED X b g) (h : ∀ {t u : TE}, PE X o t → PE X b u → PE X e (tM1 r t u)) : ED X e (dM1 p f g) :=
  .of (h ho.pe hb.pe) fun F S H ρ σ d S' Q hk R rr hf hq => by
    unfold dM1 at hf
    split at hf
    · rename_i x S1 h1
      split at hf
      · rename_i y S2 h2
        refine rdE.go hk R rr h1 fun F1 H1 v le hk1 R1 r1 rv => ⟨⟨x, rv⟩, rdE.go hk1 R1 r1 h2 fun F2 H2 u le2 hk2 R2 r2 ru => ?_⟩
        obtain rfl := (show v = .str x from rv)
        exact hp F2 S2 H2 x y u d S' Q hk2 R2 ru hf (hq.le (le.trans le2))
      · cases hf
    · cases hf
def pJoin : Str → DV → Sto → Option (DV × Sto) := fun a y S => match itemsD S y with
  | some ds => (match strsD ds with
    | some ys => if (ys.map (·.length)).sum + ys.length * a.length ≤ 16777216 then some (.str (Txt.join a ys), S) else none
    | none => none)
  | none => none
theorem ok_join {K : PySem.W.Frag} (F : Fm) (S : Sto) (H : Hp) (x : Str) (y : DV) (vy : V) (d : DV) (S' : Sto) (Q : VK) (hk : F.K = K) (R : Rep F S H) (ry : Rel F y vy) (hp : pJoin x y S = some (d, S')) (hq : PostE F S' d Q) :
    ∃ a p, ∃ ys : List Str, V.str x = .str a ∧ [vy] = [.ref p] ∧ (SqL K H p (ys.map V.str) ∨ SqT K H p (ys.map V.str)) ∧ (ys.map (·.length)).sum + ys.length * a.length ≤ 16777216 ∧ Q (.str (Txt.join a ys)) H := by
  unfold pJoin at hp
  split at hp
  · rename_i ds hL
    split at hp
    · rename_i ys hy
      obtain ⟨h1, h2⟩ := of_ite hp
      cases h2
      obtain ⟨p, us, rfl, hs, rl⟩ := itemsD_sq R ry hL
      rw [hk] at hs
      obtain rfl := strsD_ok rl hy
      exact ⟨x, p, ys, rfl, rfl, hs, h1, hq F H _ (.refl F) R rfl⟩
    · cases hp
  · cases hp
theorem strs_rel {F : Fm} : ∀ ys : List Str, RelL F (ys.map DV.str) (ys.map V.str)
  | [] => rfl
  | y :: ys => ⟨_, _, rfl, rfl, strs_rel ys⟩
theorem ints_rel {F : Fm} : ∀ ys : List Int, RelL F (ys.map DV.int) (ys.map V.int)
  | [] => rfl
  | y :: ys => ⟨_, _, rfl, rfl, ints_rel ys⟩
/-! ### d.get -/
theorem ed_dnewK (h : PE X e tDNewK) : ED X e (fun _ S => some (.loc S.length, S ++ [.dik [] []])) :=
  .of h fun F S H ρ σ d S' Q hk R rr hf hq p hp => by
    cases hf
    have R' := R.alloc (o := .dK []) (c := .dik [] []) hp (fun _ q => nomatch q) ⟨[], rfl, upd_same, rfl⟩
    exact hq _ _ _ (F.cell_le p) R' ⟨p, by rw [← R.len]; exact get_len _ _, rfl⟩
theorem ed_dnewT (h : PE X e tDNewT) : ED X e (fun _ S => some (.loc S.length, S ++ [.dit [] []])) :=
  .of h fun F S H ρ σ d S' Q hk R rr hf hq p hp => by
    cases hf
    have R' := R.alloc (o := .dT []) (c := .dit [] []) hp (fun _ q => nomatch q) ⟨[], rfl, upd_same, rfl⟩
    exact hq _ _ _ (F.cell_le p) R' ⟨p, by rw [← R.len]; exact get_len _ _, rfl⟩

/-! ### o[i] = v -/
def setI (x i y : DV) (S : Sto) : Option Sto := match x with
  | .loc n => (match S[n]? with
    | some (.lst ds) => (match i with
      | .int k => (match ixN ds.length k with
        | some j => some (S.set n (.lst (ds.set j y)))
        | none => none)
      | _ => none)
    | some (.dik ks ds) => (match keyD i with
      | some k => if ks.length < sizeLine then some (S.set n (.dik (putKs ks k) (putVs ks ds k y))) else none
      | none => none)
    | some (.dit ks ds) => (match keyT i with
      | some k => if ks.length < sizeLine then some (S.set n (.dit (putKs ks k) (putVs ks ds k y))) else none
      | none => none)
    | _ => none)
  | _ => none
end
theorem any_zip {κ : Type} [DecidableEq κ] {j : κ} : ∀ {ks : List κ} {xs : List V}, ks.length = xs.length → ((ks.zip xs).any fun kv => decide (kv.1 = j)) = hasK ks j
  | [], _, _ => by rw [List.zip_nil_left] <;> rfl
  | k :: ks, [], h => by cases h
  | k :: ks, x :: xs, h => by
    have ih := any_zip (j := j) (Nat.succ.inj h)
    unfold hasK at ih ⊢
    rw [List.zip_cons_cons, List.any_cons, List.any_cons, ih]
theorem rp_zip {κ : Type} [DecidableEq κ] {j : κ} {v : V} : ∀ {ks : List κ} {xs : List V}, ks.length = xs.length → ks.zip (rpG j v ks xs) = (ks.zip xs).map fun kv => if kv.1 = j then (kv.1, v) else kv
  | [], _, _ => by rw [List.zip_nil_left, List.zip_nil_left] <;> rfl
  | k :: ks, [], h => by cases h
  | k :: ks, x :: xs, h => by
    have ih := rp_zip (j := j) (v := v) (Nat.succ.inj h)
    unfold rpG
    rw [List.zip_cons_cons, List.zip_cons_cons, List.map_cons, ih]
    by_cases q : k = j
    · simp only [if_pos q]
    · simp only [if_neg q]
theorem rp_len {κ α : Type} [DecidableEq κ] {j : κ} {x : α} : ∀ {ks : List κ} {xs : List α}, ks.length = xs.length → (rpG j x ks xs).length = ks.length
  | [], _, _ => rfl
  | k :: ks, [], h => by cases h
  | k :: ks, y :: xs, h => by
    unfold rpG
    rw [List.length_cons, List.length_cons, rp_len (Nat.succ.inj h)]
theorem rp_rel {κ : Type} [DecidableEq κ] {F : Fm} {j : κ} {y : DV} {v : V} (ry : Rel F y v) : ∀ {ks : List κ} {ds : List DV} {xs : List V}, RelL F ds xs → RelL F (rpG j y ks ds) (rpG j v ks xs)
  | [], _, _, _ => rfl
  | k :: ks, [], xs, h => by
    obtain rfl := h.nil
    exact rfl
  | k :: ks, d :: ds, xs, h => by
    obtain ⟨x, xr, rfl, h1, h2⟩ := h
    refine ⟨_, _, rfl, ?_, rp_rel ry h2⟩
    by_cases q : k = j
    · rw [if_pos q, if_pos q]
      exact ry
    · rw [if_neg q, if_neg q]
      exact h1
/-- a dict's values behind a store -/
theorem put_ok {κ : Type} [DecidableEq κ] {F : Fm} {j : κ} {y : DV} {v : V} (ry : Rel F y v) {ks : List κ} {ds : List DV} {xs : List V} (hz : ks.length = ds.length) (rl : RelL F ds xs) :
    ∃ ys, (putKs ks j).length = (putVs ks ds j y).length ∧ RelL F (putVs ks ds j y) ys ∧ putK (ks.zip xs) j v = (putKs ks j).zip ys := by
  have hx : ks.length = xs.length := hz.trans rl.length
  unfold putKs putVs putK
  rw [any_zip hx]
  by_cases q : hasK ks j = true
  · rw [if_pos q, if_pos q, if_pos q]
    exact ⟨rpG j v ks xs, (rp_len hz).symm, rp_rel ry rl, (rp_zip hx).symm⟩
  · rw [if_neg q, if_neg q, if_neg q]
    refine ⟨xs ++ [v], by simp [hz], rl.append (rel1 ry), ?_⟩
    rw [List.zip_append hx] <;> rfl
def rSetD : V → V → V → Hp → (Hp → Prop) → Prop := fun o i v H Q => ∃ a H', o = .ref a ∧ DPut H a i v H' ∧ Q H'
theorem set_dict {X : Cx} (hu : X.A.units + 1 < cLine) : PSet X rSetD := fun pins s σ H o i v ov iv u Q I ro ri rv h => by
  obtain ⟨a, H', rfl, g, q⟩ := h
  obtain rfl : ov = Value.ref a := ro
  exact d_setItem hu I g ri rv fun s' I' => ⟨H', I', q⟩
theorem PSet.or {X : Cx} {t u : TSet} (h : PSet X t) (k : PSet X u) : PSet X (fun o i v H Q => t o i v H Q ∨ u o i v H Q) := fun pins s σ H o i v ov iv w Q I ro ri rv h' => h'.elim (h pins s σ H o i v ov iv w Q I ro ri rv) (k pins s σ H o i v ov iv w Q I ro ri rv)
theorem setI_ok {F : Fm} {S S' : Sto} {H : Hp} {x i y : DV} {vx vi vy : V} {Q : Hp → Prop} (R : Rep F S H) (rx : Rel F x vx) (ri : Rel F i vi) (ry : Rel F y vy) (h : setI x i y S = some S') (hq : ∀ H', Rep F S' H' → Q H') : rSetL vx vi vy H Q ∨ rSetD vx vi vy H Q := by
  unfold setI at h
  split at h
  · rename_i n
    obtain ⟨a, ha, rfl⟩ := rx
    split at h
    · rename_i ds hc
      split at h
      · rename_i k
        split at h
        · rename_i j hj
          cases h
          obtain rfl := (show vi = .int k from ri)
          obtain ⟨⟨us, e, ru⟩, _⟩ := R.cell n _ a hc ha
          exact .inl ⟨a, us, k, j, rfl, rfl, e, by rw [← ru.length]; exact hj, hq _ (R.write hc rfl ha (fun _ q => nomatch q) rfl ⟨us.set j vy, upd_same, ru.set ry j⟩)⟩
        · cases h
      · cases h
    · rename_i ks ds hc
      split at h
      · rename_i k hk
        obtain ⟨h1, h⟩ := of_ite h
        cases h
        obtain rfl := keyD_ok ri hk
        obtain ⟨⟨us, hz, e, ru⟩, _⟩ := R.cell n _ a hc ha
        obtain ⟨ys, p1, p2, p3⟩ := put_ok (j := k) ry hz ru
        have hl : (ks.zip us).length < sizeLine := by
          rw [List.length_zip, ← ru.length, hz, Nat.min_self, ← hz]
          exact h1
        refine .inr ⟨a, _, rfl, DPut.k e hl, hq _ ?_⟩
        rw [p3]
        exact R.write hc rfl ha (fun _ q => nomatch q) rfl ⟨ys, p1, upd_same, p2⟩
      · cases h
    · rename_i ks ds hc
      split at h
      · rename_i k hk
        obtain ⟨h1, h⟩ := of_ite h
        cases h
        unfold keyT at hk
        split at hk
        · rename_i es
          obtain ⟨b, ws, rfl, hb, rb⟩ := tup_at R ri
          obtain rfl := keysD_ok rb hk
          obtain ⟨⟨us, hz, e, ru⟩, _⟩ := R.cell n _ a hc ha
          obtain ⟨ys, p1, p2, p3⟩ := put_ok (j := k) ry hz ru
          have hl : (ks.zip us).length < sizeLine := by
            rw [List.length_zip, ← ru.length, hz, Nat.min_self, ← hz]
            exact h1
          refine .inr ⟨a, _, rfl, DPut.t e hb hl, hq _ ?_⟩
          rw [p3]
          exact R.write hc rfl ha (fun _ q => nomatch q) rfl ⟨ys, p1, upd_same, p2⟩
        · cases hk
      · cases h
    · cases h
  · cases h
def dSub (v o i : DE) : DS := fun ρ S => match v ρ S with
  | some (y, S1) => (match o ρ S1 with
    | some (x, S2) => (match i ρ S2 with
      | some (k, S3) => (match setI x k y S3 with
        | some S4 => some (.nx ρ S4)
        | none => none)
      | none => none)
    | none => none)
  | none => none
section
variable {X : Cx} {e a b o : Expr} {f g : DE} {fa : DA} {pos : Pos} {st : Stmt}
theorem sd_sub {v : DE} (h : PS X st (tAsg (rdE X.K v) (L2.gSub (rdE X.K f) (rdE X.K g) (fun o i v H Q => rSetL o i v H Q ∨ rSetD o i v H Q)))) : SD X st (dSub v f g) := .of h fun F S H ρ σ o D hk R rr hf hq => by
  unfold dSub at hf
  split at hf
  · rename_i y S1 h1
    split at hf
    · rename_i x S2 h2
      split at hf
      · rename_i k S3 h3
        split at hf
        · rename_i S4 h4
          cases hf
          exact rdE.go hk R rr h1 fun F1 H1 vy le1 hk1 R1 r1 ry => rdE.go hk1 R1 r1 h2 fun F2 H2 vx le2 hk2 R2 r2 rx => rdE.go hk2 R2 r2 h3 fun F3 H3 vk le3 hk3 R3 r3 rk =>
            setI_ok R3 (rx.le le3) rk (ry.le (le2.trans le3)) h4 fun H' R' => hq F3 H' ((le1.trans le2).trans le3) R' σ r3
        · cases hf
      · cases hf
    · cases hf
  · cases hf
/-- x += e over ints -/
def dAug (i : Nat) (p : P2) (f : DE) : DS := fun ρ S => match ρ[i]? with
  | some (some x) => (match f ρ S with
    | some (y, S1) => (match p x y S1 with
      | some (d, S2) => some (.nx (ρ.set i (some d)) S2)
      | none => none)
    | none => none)
  | _ => none
abbrev pAddI : P2 := pI fun i j => some (i + j)
/-! ### what loops walk -/
def iSeq (f : DE) : DI := fun ρ S => match f ρ S with
  | some (x, S1) => (match x with
    | .tup ds => some (ds, S1)
    | .tupx ds => some (ds, S1)
    | .lst _ ds => some (ds, S1)
    | .str s => some (s.cps.toList.map fun c => .str ⟨#[c]⟩, S1)
    | .loc n => (match S1[n]? with
      | some (.frz (.lst _ ds)) => some (ds, S1)
      | _ => none)
    | _ => none)
  | none => none
theorem walks_list {F : Fm} {a : Addr} {ds : List DV} (h : ∀ F' S H, Wk F F' → Rep F' S H → ∃ xs, SqL F.K H a xs ∧ RelL F' ds xs) : Walks (Itl F.K a) F ds := fun i F' S H w _ R => by
  obtain ⟨xs, hs, rl⟩ := h F' S H w R
  refine ⟨fun e => ⟨xs, hs, by rw [e, rl.length]; exact Nat.le_refl _⟩, fun d hd => ?_⟩
  obtain ⟨x, hx, rx⟩ := rl.get hd
  refine ⟨⟨xs, x, hs, hx⟩, fun y H' yl => ?_⟩
  obtain ⟨rfl, y2⟩ := yl
  have e := (y2 xs hs).symm.trans hx
  cases e
  exact ⟨F', .refl F', R, rx⟩
theorem walks_tup {F : Fm} {a : Addr} {ds : List DV} (h : ∀ F' S H, Wk F F' → Rep F' S H → ∃ xs, SqT F.K H a xs ∧ RelL F' ds xs) : Walks (Itt F.K a) F ds := fun i F' S H w _ R => by
  obtain ⟨xs, hs, rl⟩ := h F' S H w R
  refine ⟨fun e => ⟨xs, hs, by rw [e, rl.length]; exact Nat.le_refl _⟩, fun d hd => ?_⟩
  obtain ⟨x, hx, rx⟩ := rl.get hd
  refine ⟨⟨xs, x, hs, hx⟩, fun y H' yl => ?_⟩
  obtain ⟨rfl, y2⟩ := yl
  have e := (y2 xs hs).symm.trans hx
  cases e
  exact ⟨F', .refl F', R, rx⟩
theorem walks_str {F : Fm} {s : Str} : Walks (Its s) F (s.cps.toList.map fun c => .str ⟨#[c]⟩) := fun i F' S H w _ R => by
  refine ⟨fun e => ?_, fun d hd => ?_⟩
  · have : i = s.cps.size := by simpa using e
    show s.cps.size ≤ i
    omega
  · rw [List.getElem?_map] at hd
    cases e : s.cps.toList[i]? with
    | none =>
      rw [e] at hd
      cases hd
    | some c =>
      rw [e] at hd
      cases hd
      have e2 : s.cps[i]? = some c := by simpa using e
      refine ⟨(Array.getElem?_eq_some_iff.mp e2).1, fun x H' y => ?_⟩
      obtain ⟨rfl, c', h1, rfl⟩ := y
      rw [e2] at h1
      cases h1
      exact ⟨F', .refl F', R, rfl⟩
theorem walks_range {F : Fm} {lo : Int} {n : Nat} : Walks (Itr lo n) F ((List.range n).map fun i => .int (lo + (i : Nat))) := fun i F' S H w _ R => by
  refine ⟨fun e => ?_, fun d hd => ?_⟩
  · have : i = n := by simpa using e
    show n ≤ i
    omega
  · rw [List.getElem?_map] at hd
    cases e : (List.range n)[i]? with
    | none =>
      rw [e] at hd
      cases hd
    | some c =>
      rw [e] at hd
      cases hd
      obtain ⟨h1, h2⟩ := List.getElem?_eq_some_iff.mp e
      rw [List.getElem_range] at h2
      subst h2
      refine ⟨(by simpa using h1 : i < n), fun x H' y => ?_⟩
      obtain ⟨rfl, rfl⟩ := y
      exact ⟨F', .refl F', R, rfl⟩
theorem seq_src {F : Fm} {S : Sto} {H : Hp} {k : LK} {ds : List DV} {v : V} (R : Rep F S H) (rv : Rel F (.lst k ds) v) : ∃ a, v = .ref a ∧ (∃ xs, SqL F.K H a xs) ∧ Walks (Itl F.K a) F ds := by
  obtain ⟨a, xs, rfl, hs, _⟩ := rv.lstSq R
  refine ⟨a, rfl, ⟨xs, hs⟩, walks_list fun F' S' H' w R' => ?_⟩
  obtain ⟨a', xs', e, hs', rl'⟩ := (Rel.wk w _ _ rv).lstSq R'
  cases e
  rw [w.k] at hs'
  exact ⟨xs', hs', rl'⟩
theorem id_seq {tg : Expr} (h : ED X e f) : ID X tg e (iSeq f) :=
  .of (PI.or (pi_list h.pe) (PI.or (pi_tup h.pe) (pi_str h.pe))) fun F S H ρ σ ds S' Q hk R rr hf hq => by
    unfold iSeq at hf
    split at hf
    · rename_i x S1 h1
      split at hf
      · rename_i es
        cases hf
        refine .inr (.inl (rdE.go hk R rr h1 fun F1 H1 v le hk1 R1 r1 rv => ?_))
        obtain ⟨a, xs, rfl, hs, rl⟩ := rv
        rw [← hk1]
        refine ⟨a, rfl, ⟨xs, SqT.of (R1.g _ _ hs)⟩, hq _ F1 H1 le R1 (walks_tup fun F' S' H' w R' => ⟨xs, SqT.of (R'.g _ _ (w.g _ _ hs)), RelL.wk w _ _ rl⟩)⟩
      · rename_i es
        cases hf
        refine .inr (.inl (rdE.go hk R rr h1 fun F1 H1 v le hk1 R1 r1 rv => ?_))
        obtain ⟨a, xs, rfl, hs, rl⟩ := rv
        rw [← hk1]
        refine ⟨a, rfl, ⟨xs, sqT_same R1.g hs⟩, hq _ F1 H1 le R1 (walks_tup fun F' S' H' w R' => ⟨xs, sqT_same R'.g (sqT_same w.g hs), RelL.wk w _ _ rl⟩)⟩
      · rename_i k es
        cases hf
        refine .inl (rdE.go hk R rr h1 fun F1 H1 v le hk1 R1 r1 rv => ?_)
        obtain ⟨a, rfl, hs, hw⟩ := seq_src R1 rv
        rw [← hk1]
        exact ⟨a, rfl, hs, hq _ F1 H1 le R1 hw⟩
      · rename_i s
        cases hf
        refine .inr (.inr (rdE.go hk R rr h1 fun F1 H1 v le hk1 R1 r1 rv => ?_))
        exact ⟨s, rv, hq _ F1 H1 le R1 walks_str⟩
      · rename_i n
        split at hf
        · rename_i k es hc
          cases hf
          refine .inl (rdE.go hk R rr h1 fun F1 H1 v le hk1 R1 r1 rv => ?_)
          obtain ⟨a, ha, rfl⟩ := rv
          obtain ⟨rl, _⟩ := R1.cell n _ a hc ha
          obtain ⟨a', e, hs, hw⟩ := seq_src R1 (show Rel F1 (.lst k ds) (.ref a) from rl)
          cases e
          rw [← hk1]
          exact ⟨a, rfl, hs, hq _ F1 H1 le R1 hw⟩
        · cases hf
      · cases hf
    · cases hf
def rgD (lo : Int) (n : Nat) : List DV := (List.range n).map fun i => .int (lo + (i : Nat))
def iRange1 (f : DA) : DI := fun ρ S => match f ρ S with
  | some ([.int j], S1) => if j.natAbs < 4611686018427387904 then some (rgD 0 j.toNat, S1) else none
  | _ => none
theorem id_range1 {tg : Expr} {es : List Expr} (ha : AD X es fa) (h : ∀ {t : TA}, PA X es t → PI X tg e (iRng1 t)) : ID X tg e (iRange1 fa) :=
  .of (h ha.pa) fun F S H ρ σ ds S' Q hk R rr hf hq => by
    unfold iRange1 at hf
    split at hf
    · rename_i j S1 h1
      obtain ⟨hb, hf⟩ := of_ite hf
      cases hf
      refine rdA.go hk R rr h1 fun F1 H1 vs le hk1 R1 r1 rl => ?_
      obtain ⟨v, rfl, rv⟩ := one rl
      obtain rfl := (show v = .int j from rv)
      exact ⟨j, rfl, by omega, by omega, hq _ F1 H1 le R1 walks_range⟩
    · cases hf
end
end Dn

namespace Dn
open PySem PySem.Spec PyProof.Rows L2

/-! ### a def that is ready to be called -/
structure FnC (P : Program) (w : World) (K : PySem.W.Frag) (mg : Str → Option Value) (base : Heap) (x : Str) (k : Nat) (ps : List Str) (dvs : List V) (f : PL) : Prop where
  ex : ∃ (a : Addr) (fd : FuncData) (ds : List Value), mg x = some (.ref a) ∧ FnOk P w K mg base CX0 k a fd ps (spS K ps.length f) ∧ PySem.W.keepIn K (.ref a) = true ∧ Binds K fd ps ds ∧ Vals dvs ds
section
variable {X : Cx} {x : Str} {k j : Nat} {ps : List Str} {dvs : List V} {f : PL} {dds : List DV} {p pos : Pos} {e a b : Expr} {es : List Expr} {fa : DA}
theorem FnC.pe (C : FnC X.prog X.w X.K X.mg X.base x k ps dvs f) (hr : Room j X.A) (hj : k ≤ j) (hg : Gl X x) {t : TA} (ha : PA X (e :: es) t) (hdb : (x == ("__debug__" : Str)) = false := by decide)
    (he : starEach (e :: es) X.env = (false, eval e X.env) :: starEach es X.env := by rfl) (hpl : (backTo pos (starEach es X.env)).any (·.1) = false := by rfl) :
    PE X (.Call (.Name x p) (e :: es) [] pos) (tCall (spS X.K ps.length f) dvs E0 t) := by
  obtain ⟨a, fd, ds, h1, h2, h3, h4, h5⟩ := C.ex
  exact pe_call h2 (hr.mono hj) hg h1 h3 h4 h5 pass0 ha hdb he hpl
theorem ed_callS (C : FnC X.prog X.w X.K X.mg X.base x k ps dvs (runF np n b0)) (hn : ps.length = np) (hr : Room j X.A) (hj : k ≤ j) (hg : Gl X x) (hd : ∀ F : Fm, RelL F dds dvs) (ha : AD X (e :: es) fa) (hdb : (x == ("__debug__" : Str)) = false := by decide)
    (he : starEach (e :: es) X.env = (false, eval e X.env) :: starEach es X.env := by rfl) (hpl : (backTo pos (starEach es X.env)).any (·.1) = false := by rfl) :
    ED X (.Call (.Name x p) (e :: es) [] pos) (dPrim (cS (runF np n b0) dds) fa) := by
  subst hn
  exact ed_call (fun {t} ha => C.pe hr hj hg ha hdb he hpl) (ok_cS hd runF_len) ha
theorem ed_callP (C : FnC X.prog X.w X.K X.mg X.base x k ps dvs (runF np n b0)) (hn : ps.length = np) (hr : Room j X.A) (hj : k ≤ j) (hg : Gl X x) (hd : ∀ F : Fm, RelL F dds dvs) (ha : AD X (e :: es) fa) (hdb : (x == ("__debug__" : Str)) = false := by decide)
    (he : starEach (e :: es) X.env = (false, eval e X.env) :: starEach es X.env := by rfl) (hpl : (backTo pos (starEach es X.env)).any (·.1) = false := by rfl) :
    ED X (.Call (.Name x p) (e :: es) [] pos) (dPrim (cP (pureOf (runF np n b0)) dds) fa) := by
  subst hn
  exact ed_call (fun {t} ha => C.pe hr hj hg ha hdb he hpl) (ok_cP hd runF_len) ha
theorem dd0 (F : Fm) : RelL F [] [] := rfl
theorem FnC.of {P : Program} {w : World} {K : PySem.W.Frag} {mg : Str → Option Value} {base : Heap} {a : Addr} {fd : FuncData} {qual : Str} {params : Arguments} {body : List Stmt} {scope : Scope}
    (F : FunD K x qual params body scope [] [] a fd) (hm : mg x = some (.ref a)) (h : FnOk P w K mg base CX0 k a fd ps (spS K ps.length f))
    (hb : ∀ (kV doc pm : Value) (an : Option Addr) (cdv ct : Value) (us : List Value), us.length = ps.length → bindArgs (PySem.W.fnOf x qual params body scope .none kV doc pm an cdv ct) ⟨us, []⟩ = pure (ps.zip us)) : FnC P w K mg base x k ps [] f :=
  ⟨a, fd, [], hm, h, F.kp, F.bindsN hb, .nil⟩

/-! ### names of the module -/
/-! ### built-in calls in short -/
structure TB (mg : Str → Option Value) : Prop where
  len : mg "len" = none
  isinstance : mg "isinstance" = none
  range : mg "range" = none
  enumerate : mg "enumerate" = none
  list : mg "list" = none
  tuple : mg "tuple" = none
  str : mg "str" = none
  int : mg "int" = none
  max : mg "max" = none
  min : mg "min" = none
  sum : mg "sum" = none
  any : mg "any" = none
  all : mg "all" = none
  sorted : mg "sorted" = none
  set : mg "set" = none
  reversed : mg "reversed" = none
  bool : mg "bool" = none
  dict : mg "dict" = none
  zip : mg "zip" = none
  ve : mg "ValueError" = none
theorem tb_of {K : PySem.W.Frag} {h : Heap} {mg : Str → Option Value} (X : K.In h) (G : h.Ns mainGlobals mg) (c : ∀ f ∈ frees, f.ok K = true) : TB mg := by
  have g : ∀ {x : Str}, He.Fa.free x ∈ frees → mg x = none := fun {x} hx => He.free_ok X G (c _ hx)
  have m : ∀ (i : Nat) {x : Str}, frees[i]? = some (He.Fa.free x) → mg x = none := fun i {x} e => g (List.mem_of_getElem? e)
  exact ⟨m 0 rfl, m 1 rfl, m 2 rfl, m 3 rfl, m 4 rfl, m 5 rfl, m 6 rfl, m 7 rfl, m 8 rfl, m 9 rfl, m 10 rfl, m 11 rfl, m 12 rfl, m 13 rfl, m 14 rfl, m 15 rfl, m 16 rfl, m 17 rfl, m 18 rfl, m 19 rfl⟩
section
theorem e_isi {T7 : Ty7} {e1 : Expr} {f : DE} {p1 p2 : Pos} (T : TB X.mg) (hm : X.mg (Str.ofString T7.name) = none) (hT : T7 ≠ .non) (hg : Gl X "isinstance") (hg2 : Gl X (Str.ofString T7.name)) (hb : bootBuiltins (Str.ofString T7.name) = some (.type T7.name))
    (hx : ED X e1 f) (hn : Str.ofString T7.name ≠ "__name__" := by decide) (hd : (Str.ofString T7.name == ("__debug__" : Str)) = false := by decide)
    (h1 : starEach [e1, .Name (Str.ofString T7.name) p2] X.env = (false, eval e1 X.env) :: starEach [.Name (Str.ofString T7.name) p2] X.env := by rfl)
    (hpl : (backTo pos (starEach [.Name (Str.ofString T7.name) p2] X.env)).any (·.1) = false := by rfl) :
    ED X (.Call (.Name "isinstance" p1) [e1, .Name (Str.ofString T7.name) p2] [] pos) (dIsi T7 f) :=
  ed_isi hT hx fun h => pe_callB call_isi hg T.isinstance boot_isinstance (pa_cons h (pa_cons (pe_bltn hg2 hm hb rfl hn hd) pa_nil) h1) (he := h1) (hpl := hpl)
end
end
theorem call_tupAll {X : Cx} : CallR X (.type "tuple") (rTupAll X.K) := call_tuple_of
/-! ### targets in short -/
section
variable {X : Cx} {e : Expr} {es : List Expr}
theorem gds_c {g : DG} {h : DGs} (h1 : GD X e g) (h2 : GDs X es h) (ha : (assignEach (e :: es) X.env).map (·.2) = assign e X.env :: (assignEach es X.env).map (·.2) := by rfl) : GDs X (e :: es) (gsCons g h) := gds_cons (t := rdG X.K g) (u := rdGs X.K h) h1 h2 (pgs_cons h1.pg h2.pg ha)
theorem gd_t {h : DGs} {k n : Nat} {pos : Pos} (hc : X.calm = true) (h2 : GDs X es h) (hn : (assignEach es X.env).length = n := by rfl) (hst : (assignEach es X.env).findIdx? (·.1) = none := by rfl) : GD X (.Tuple es k pos) (gTupD n h) := gd_tup h2 (pg_tup hc h2.pg hn hst)
end
/-! ### the head -/
structure Facts (fa : List He.Fa) (fn : List He.DefD) (ex : PySem.W.Frag → Bool) (K : PySem.W.Frag) (mg : Str → Option Value) : Prop where
  h : ∃ h : Heap, K.In h ∧ h.Ns mainGlobals mg
  c : He.SaysD fa fn K
  e : ex K = true
section
variable {fa : List He.Fa} {fn : List He.DefD} {ex : PySem.W.Frag → Bool} {K : PySem.W.Frag} {mg : Str → Option Value}
theorem Facts.glo (Y : Facts fa fn ex K mg) (i : Nat) {x : Str} (h : fa[i]? = some (.glo x) := by rfl) : mg x = some (.ref (He.ga K x)) := by
  obtain ⟨hp, X, G⟩ := Y.h
  exact He.glo_ok X G (Y.c.fact i h)
theorem Facts.int (Y : Facts fa fn ex K mg) (i : Nat) {x : Str} {k : Int} (h : fa[i]? = some (.int x k) := by rfl) : ∃ t, mg x = some (.int k t) := by
  obtain ⟨hp, X, G⟩ := Y.h
  exact He.int_ok X G (Y.c.fact i h)
theorem Facts.str (Y : Facts fa fn ex K mg) (i : Nat) {x k : Str} (h : fa[i]? = some (.str x k) := by rfl) : ∃ t, mg x = some (.str k t) := by
  obtain ⟨hp, X, G⟩ := Y.h
  exact He.str_ok X G (Y.c.fact i h)
theorem Facts.tb0 (Y : Facts fa fn ex K mg) (hl : ∃ l, fa = l ++ frees) : TB mg := by
  obtain ⟨hp, X, G⟩ := Y.h
  obtain ⟨l, rfl⟩ := hl
  refine tb_of X G fun f hf => ?_
  obtain ⟨i, hi⟩ := List.mem_iff_getElem?.mp (List.mem_append_right l hf)
  exact Y.c.fact i hi
end
/-- the law's promise off its mathematics -/
theorem spS_law {K : PySem.W.Frag} {f : PL} {H : Hp} {a : Addr} {ns : List Int} {E : XK} (hS : SqL K H a (ns.map V.int)) (h : ∃ S', f [.lst .ext (ns.map DV.int)] [] = some (.bl true, S')) : spS K 1 f [.ref a] H (fun v _ => v = .bl true) E := by
  obtain ⟨S', h⟩ := h
  refine ⟨⟨K, H, fun _ => none, fun _ => none, []⟩, [], [.lst .ext (ns.map DV.int)], .bl true, S', rfl, ⟨Same.refl _, (fun _ _ q => nomatch q), (fun _ _ q => nomatch q), fun _ _ e => e, rfl, fun n c a h _ => by simp at h, fun n m c c' a h => by simp at h⟩, rel1 ⟨a, _, rfl, hS, ints_rel _⟩, rfl, h, fun F' H' v le R' rv => rv⟩
end Dn

namespace Dn
open PySem PySem.Spec PyProof.Rows L2

/-! ### the laws' mathematics: evaluating denotations -/
mutual
/-- a value without cells and borrowed parts -/
def plain : DV → Bool
  | .loc _ => false
  | .tup ds => plainL ds
  | .tupx ds => plainL ds
  | .lst k ds => (match k with | .bor => false | _ => true) && plainL ds
  | .dik k _ ds => (match k with | .own => true | _ => false) && plainL ds
  | .dit k _ ds => (match k with | .own => true | _ => false) && plainL ds
  | _ => true
def plainL : List DV → Bool
  | [] => true
  | d :: ds => plain d && plainL ds
end
mutual
theorem mapD_plain {b : Bool} {h : Nat → Option DV} : ∀ {d : DV}, plain d = true → mapD b h d = some d
  | .loc _, e => by cases e
  | .non, _ => rfl
  | .bl _, _ => rfl
  | .int _, _ => rfl
  | .str _, _ => rfl
  | .tup ds, e => by
    unfold mapD
    rw [mapDL_plain (d := ds) e]
  | .tupx ds, e => by
    unfold mapD
    rw [mapDL_plain (d := ds) e]
  | .lst k ds, e => by
    unfold plain at e
    obtain ⟨e1, e2⟩ := Bool.and_eq_true_iff.mp e
    unfold mapD
    rw [mapDL_plain e2]
    cases k with
    | bor => cases e1
    | own => rfl
    | ext => rfl
  | .dik k ks ds, e => by
    unfold plain at e
    obtain ⟨e1, e2⟩ := Bool.and_eq_true_iff.mp e
    unfold mapD
    rw [mapDL_plain e2]
    cases k with
    | bor => cases e1
    | own => rfl
    | ext => cases e1
  | .dit k ks ds, e => by
    unfold plain at e
    obtain ⟨e1, e2⟩ := Bool.and_eq_true_iff.mp e
    unfold mapD
    rw [mapDL_plain e2]
    cases k with
    | bor => cases e1
    | own => rfl
    | ext => cases e1
theorem mapDL_plain {b : Bool} {h : Nat → Option DV} : ∀ {d : List DV}, plainL d = true → mapDL b h d = some d
  | [], _ => rfl
  | d :: ds, e => by
    unfold plainL at e
    obtain ⟨e1, e2⟩ := Bool.and_eq_true_iff.mp e
    unfold mapDL
    rw [mapD_plain e1, mapDL_plain e2]
end
theorem cpD_plain {b : Bool} {S : Sto} {d : DV} (h : plain d = true) : cpD b S d = some d := mapD_plain h
theorem cpL_plain {b : Bool} {S : Sto} {d : List DV} (h : plainL d = true) : cpL b S d = some d := mapDL_plain h
section
variable {b : Bool} {x : Str} {i : Int} {ds : List DV} {d : DV}
@[simp] theorem plain_non : plain .non = true := (rfl)
@[simp] theorem plain_bl : plain (.bl b) = true := (rfl)
@[simp] theorem plain_int : plain (.int i) = true := (rfl)
@[simp] theorem plain_str : plain (.str x) = true := (rfl)
@[simp] theorem plain_tup : plain (.tup ds) = plainL ds := (rfl)
@[simp] theorem plain_tupx : plain (.tupx ds) = plainL ds := (rfl)
@[simp] theorem plain_own : plain (.lst .own ds) = plainL ds := by simp [plain]
@[simp] theorem plain_ext : plain (.lst .ext ds) = plainL ds := by simp [plain]
@[simp] theorem plainL_nil : plainL [] = true := (rfl)
@[simp] theorem plainL_cons : plainL (d :: ds) = (plain d && plainL ds) := (rfl)
theorem plainL_iff : ∀ {ds : List DV}, plainL ds = true ↔ ∀ d ∈ ds, plain d = true
  | [] => by simp
  | d :: ds => by simp [plainL_iff (ds := ds)]
@[simp] theorem plainL_app {a b : List DV} : plainL (a ++ b) = (plainL a && plainL b) := by
  induction a with
  | nil => simp
  | cons x r ih => simp [ih, Bool.and_assoc]
@[simp] theorem plainL_ints {ns : List Int} : plainL (ns.map DV.int) = true := plainL_iff.mpr fun d h => by
  obtain ⟨i, _, rfl⟩ := List.mem_map.mp h
  rfl
@[simp] theorem plainL_strs {ns : List Str} : plainL (ns.map DV.str) = true := plainL_iff.mpr fun d h => by
  obtain ⟨i, _, rfl⟩ := List.mem_map.mp h
  rfl
end
/-- a cell's copy -/
theorem cpD_loc {b : Bool} {S : Sto} {n : Nat} {ds : List DV} (h : S[n]? = some (.lst ds)) (hp : plainL ds = true) : cpD b S (.loc n) = some (.lst (bk b) ds) := by
  show cpN b (S.length + 1) S n = _
  unfold cpN
  simp only [h, mapDL_plain hp]
theorem pureOf_of {f : PL} {ds : List DV} {d : DV} {S' : Sto} (h : f ds [] = some (d, S')) (hp : plain d = true) : pureOf f ds = some d := by
  unfold pureOf
  rw [h]
  exact cpD_plain hp
section
variable {f g h : DE} {fa : DA} {s t : DS} {p : P2} {ρ : Ev} {S : Sto} {i : Nat} {d : DV} {pl : PL} {pf : List DV → Option DV} {xs : List DV}
@[simp] theorem v_var : dVar i ρ S = (match ρ[i]? with | some (some d) => some (d, S) | _ => none) := (rfl)
@[simp] theorem v_c : dC d ρ S = some (d, S) := (rfl)
@[simp] theorem v_un {p : P1} : dUn p f ρ S = (match f ρ S with | some (x, S1) => p x S1 | none => none) := (rfl)
@[simp] theorem v_bin : dBin p f g ρ S = (match f ρ S with | some (x, S1) => (match g ρ S1 with | some (y, S2) => p x y S2 | none => none) | none => none) := (rfl)
@[simp] theorem v_and : dAnd f g ρ S = (match f ρ S with | some (.bl true, S1) => g ρ S1 | some (.bl false, S1) => some (.bl false, S1) | _ => none) := (rfl)
@[simp] theorem v_or : dOr f g ρ S = (match f ρ S with | some (.bl true, S1) => some (.bl true, S1) | some (.bl false, S1) => g ρ S1 | _ => none) := (rfl)
@[simp] theorem v_not : dNot f ρ S = (match f ρ S with | some (.bl c, S1) => some (.bl (!c), S1) | _ => none) := (rfl)
@[simp] theorem v_if : dIf h f g ρ S = (match h ρ S with | some (.bl true, S1) => f ρ S1 | some (.bl false, S1) => g ρ S1 | _ => none) := (rfl)
@[simp] theorem v_nil : aNil ρ S = some ([], S) := (rfl)
@[simp] theorem v_cons : aCons f fa ρ S = (match f ρ S with | some (x, S1) => (match fa ρ S1 with | some (xs, S2) => some (x :: xs, S2) | none => none) | none => none) := (rfl)
@[simp] theorem v_prim : dPrim pl fa ρ S = (match fa ρ S with | some (xs, S1) => pl xs S1 | none => none) := (rfl)
@[simp] theorem v_next : dNext ρ S = some (.nx ρ S) := (rfl)
@[simp] theorem v_seq : dSeq s t ρ S = (match s ρ S with | some (.nx ρ' S') => t ρ' S' | o => o) := (rfl)
@[simp] theorem v_break : dBreak ρ S = some (.bk ρ S) := (rfl)
@[simp] theorem v_cont : dCont ρ S = some (.ct ρ S) := (rfl)
@[simp] theorem v_expr : dExpr f ρ S = (match f ρ S with | some (_, S') => some (.nx ρ S') | none => none) := (rfl)
@[simp] theorem v_ret : dRet f ρ S = (match f ρ S with | some (d, S') => some (.rt d S') | none => none) := (rfl)
@[simp] theorem v_retN : dRetN ρ S = some (.rt .non S) := (rfl)
@[simp] theorem v_ifS : dIfS f s t ρ S = (match f ρ S with | some (.bl true, S1) => s ρ S1 | some (.bl false, S1) => t ρ S1 | _ => none) := (rfl)
@[simp] theorem v_gset : gSet i d ρ S = some (ρ.set i (some d), S) := (rfl)
@[simp] theorem v_set : dSet i f ρ S = (match f ρ S with | some (d, S1) => some (.nx (ρ.set i (some d)) S1) | none => none) := (rfl)
@[simp] theorem v_isi {T : Ty7} : dIsi T f ρ S = (match f ρ S with | some (x, S1) => (match tyD S1 x with | some t => some (.bl (isT t T), S1) | none => none) | none => none) := (rfl)
@[simp] theorem v_for {it : DI} {gt : DG} : dFor it gt s ρ S = (match it ρ S with | some (ds, S1) => forL gt s ds ρ S1 | none => none) := (rfl)
@[simp] theorem v_aug : dAug i p f ρ S = (match ρ[i]? with | some (some x) => (match f ρ S with | some (y, S1) => (match p x y S1 with | some (d, S2) => some (.nx (ρ.set i (some d)) S2) | none => none) | none => none) | _ => none) := (rfl)
@[simp] theorem cP_eq : cP pf [] xs S = (match cpL true S xs with | some ys => (match pf ys with | some d => some (d, S) | none => none) | none => none) := by
  unfold cP
  rw [List.append_nil] <;> rfl
@[simp] theorem cM_eq {pm : List DV → Option (List DV)} : cM pm [] xs S = (match cpL true S xs with | some ys => (match pm ys with | some es => some (.loc S.length, S ++ [.lst es]) | none => none) | none => none) := by
  unfold cM
  rw [List.append_nil] <;> rfl
@[simp] theorem v_subI {a b : Int} : pSub (.int a) (.int b) S = some (.int (a - b), S) := (rfl)
@[simp] theorem v_addI {a b : Int} : pAdd (.int a) (.int b) S = some (.int (a + b), S) := (rfl)
@[simp] theorem v_addI2 {a b : Int} : pAddI (.int a) (.int b) S = some (.int (a + b), S) := (rfl)
@[simp] theorem v_andI {a b : Int} : pAnd (.int a) (.int b) S = some (.int (Builtin.bitAnd a b), S) := (rfl)
@[simp] theorem v_orI {a b : Int} : pOr (.int a) (.int b) S = some (.int (Builtin.bitOr a b), S) := (rfl)
@[simp] theorem v_xorI {a b : Int} : pXor (.int a) (.int b) S = some (.int (Builtin.bitXor a b), S) := (rfl)
@[simp] theorem v_neg {a : Int} : pNeg (.int a) S = some (.int (-a), S) := (rfl)
theorem v_modI {a b : Int} (h : 0 < b) : pMod (.int a) (.int b) S = some (.int (a % b), S) := by
  show (match gMod a b with | some k => some (DV.int k, S) | none => none) = _
  unfold gMod
  rw [if_pos h]
theorem v_divI {a b : Int} (h : 0 < b) (h2 : b < 18446744073709551616) : pDiv (.int a) (.int b) S = some (.int (a / b), S) := by
  have h3 : b.natAbs < 2 ^ 64 := by omega
  have h4 : b.natAbs.log2 < 64 := (Nat.log2_lt (by omega)).mpr h3
  have e : gDiv a b = some (a / b) := by
    unfold gDiv
    exact if_pos ⟨h, by omega⟩
  show (match gDiv a b with | some k => some (DV.int k, S) | none => none) = _
  rw [e]
theorem v_mulI {a b : Int} (h : -18446744073709551616 < b ∧ b < 18446744073709551616) : pMul (.int a) (.int b) S = some (.int (a * b), S) := by
  show (match gMul a b with | some k => some (DV.int k, S) | none => none) = _
  unfold gMul
  rw [if_pos (.inl (.inr (by omega)))]
theorem v_mulIl {a b : Int} (h : -18446744073709551616 < a ∧ a < 18446744073709551616) : pMul (.int a) (.int b) S = some (.int (a * b), S) := by
  show (match gMul a b with | some k => some (DV.int k, S) | none => none) = _
  unfold gMul
  rw [if_pos (.inl (.inl (by omega)))]
theorem v_powI {a : Int} {b : Nat} (h2 : b ≤ 1000000) (h3 : a.natAbs < 18446744073709551616) : pPow (.int a) (.int b) S = some (.int (a ^ b), S) := by
  show (match gPow a b with | some k => some (DV.int k, S) | none => none) = _
  unfold gPow
  rw [if_pos ⟨by omega, by omega, h3⟩]
  rfl
@[simp] theorem v_addL {k l : LK} {xs ys : List DV} (hk : k ≠ .ext := by decide) (hl : l ≠ .ext := by decide) : pAdd (.lst k xs) (.lst l ys) S = (if xs.length + ys.length ≤ sizeLine then some (.lst .own (xs ++ ys), S) else none) := by
  cases k <;> cases l <;> first | rfl | exact absurd rfl hk | exact absurd rfl hl
@[simp] theorem v_addS {a b : Str} : pAdd (.str a) (.str b) S = (if a.length + b.length ≤ sizeLine then some (.str (a ++ b), S) else none) := (rfl)
@[simp] theorem v_addT {xs ys : List DV} : pAdd (.tup xs) (.tup ys) S = (if xs.length + ys.length ≤ sizeLine then some (.tup (xs ++ ys), S) else none) := (rfl)
@[simp] theorem v_pLst {xs : List DV} : pLst xs S = (if xs.length ≤ sizeLine then some (.lst .own xs, S) else none) := (rfl)
@[simp] theorem v_pLstM {xs : List DV} : pLstM xs S = (if xs.length ≤ sizeLine then some (.loc S.length, S ++ [.lst xs]) else none) := (rfl)
@[simp] theorem v_pTup {xs : List DV} : pTup xs S = (if xs.length ≤ sizeLine then some (.tup xs, S) else none) := (rfl)
@[simp] theorem size_eq : sizeLine = 16777216 := (rfl)
@[simp] theorem v_lt {a b : Int} : pLt (.int a) (.int b) S = some (.bl (decide (a < b)), S) := (rfl)
@[simp] theorem v_le {a b : Int} : pLe (.int a) (.int b) S = some (.bl (decide (a ≤ b)), S) := (rfl)
@[simp] theorem v_gt {a b : Int} : pGt (.int a) (.int b) S = some (.bl (decide (b < a)), S) := (rfl)
@[simp] theorem v_ge {a b : Int} : pGe (.int a) (.int b) S = some (.bl (decide (b ≤ a)), S) := (rfl)
@[simp] theorem v_eqI {a b : Int} : pEq false (.int a) (.int b) S = some (.bl (decide (a = b)), S) := (rfl)
@[simp] theorem v_neI {a b : Int} : pEq true (.int a) (.int b) S = some (.bl (!decide (a = b)), S) := (rfl)
@[simp] theorem v_eqS {a b : Str} : pEq false (.str a) (.str b) S = some (.bl (decide (a = b)), S) := (rfl)
@[simp] theorem v_neS {a b : Str} : pEq true (.str a) (.str b) S = some (.bl (!decide (a = b)), S) := (rfl)
@[simp] theorem v_isN : pIs false d .non S = some (.bl (isNon d), S) := (rfl)
@[simp] theorem v_isnN : pIs true d .non S = some (.bl (!isNon d), S) := (rfl)
end
@[simp] theorem isNon_int {i : Int} : isNon (.int i) = false := (rfl)
@[simp] theorem isNon_str {i : Str} : isNon (.str i) = false := (rfl)
@[simp] theorem isNon_non : isNon .non = true := (rfl)
@[simp] theorem isNon_loc {n : Nat} : isNon (.loc n) = false := (rfl)
section
variable {f : DE} {ρ : Ev} {S : Sto}
@[simp] theorem iSeq_eq : iSeq f ρ S = (match f ρ S with | some (x, S1) => (match x with | .tup ds => some (ds, S1) | .tupx ds => some (ds, S1) | .lst _ ds => some (ds, S1) | .str s => some (s.cps.toList.map fun c => .str ⟨#[c]⟩, S1) | .loc n => (match S1[n]? with | some (.frz (.lst _ ds)) => some (ds, S1) | _ => none) | _ => none) | none => none) := (rfl)
end
/-! ### places -/
theorem ixN_nat {n k : Nat} (h : k < n) : ixN n (k : Int) = some k := by
  unfold ixN
  rw [if_pos (by omega), if_pos (by omega), Int.toNat_natCast]
section
variable {S : Sto} {ds : List DV} {i : Int} {d : DV}
theorem ix_seq {k : LK} (h : atD ds i = some d) : pIx (.lst k ds) (.int i) S = some (d, S) := by
  show (match atD ds i with | some d => some (d, S) | none => none) = _
  rw [h]
theorem ix_tup (h : atD ds i = some d) : pIx (.tup ds) (.int i) S = some (d, S) := by
  show (match atD ds i with | some d => some (d, S) | none => none) = _
  rw [h]
theorem ix_loc {n : Nat} (hn : S[n]? = some (.lst ds)) (h : atD ds i = some d) : pIx (.loc n) (.int i) S = some (d, S) := by
  show (match asL S (.loc n) with | some ds => (match atD ds i with | some d => some (d, S) | none => none) | none => _) = _
  unfold asL
  simp only [hn, h]
theorem ix_str {s : Str} {c : Nat} (hl : s.length ≤ sizeLine) (h : atI s.cps.toList i = some c) : pIx (.str s) (.int i) S = some (.str ⟨#[c]⟩, S) := by
  show (if s.length ≤ sizeLine then (match atI s.cps.toList i with | some c => some (DV.str ⟨#[c]⟩, S) | none => none) else none) = _
  rw [if_pos hl, h]
theorem atD_nat {k : Nat} (h : ds[k]? = some d) : atD ds (k : Int) = some d := by
  unfold atD
  rw [ixN_nat (List.getElem?_eq_some_iff.mp h).1]
  exact h
end

/-! ### comprehensions and loops -/
inductive All2 {α β : Type} (P : α → β → Prop) : List α → List β → Prop where
  | nil : All2 P [] []
  | cons {a b as bs} (h : P a b) (t : All2 P as bs) : All2 P (a :: as) (b :: bs)
theorem lcR_of {it : DI} {g : DG} {c fe : DE} {vs : List Nat} {ρ : Ev} {S S1 S2 : Sto} {ds ys : List DV} (hi : it ρ S = some (ds, S1)) (hl : lcL g c fe (dwipe ρ vs) ds S1 = some (ys, S2)) (hz : ys.length ≤ sizeLine) : lcR it g c fe vs ρ S = some (ys, S2) := by
  unfold lcR
  simp only [hi, hl]
  rw [if_pos hz]
theorem dLc_of {it : DI} {g : DG} {c fe : DE} {vs : List Nat} {ρ : Ev} {S S1 S2 : Sto} {ds ys : List DV} (hi : it ρ S = some (ds, S1)) (hl : lcL g c fe (dwipe ρ vs) ds S1 = some (ys, S2)) (hz : ys.length ≤ sizeLine) : dLc it g c fe vs ρ S = some (.lst .own ys, S2) := by
  unfold dLc
  simp only [lcR_of hi hl hz]
theorem dLcM_of {it : DI} {g : DG} {c fe : DE} {vs : List Nat} {ρ : Ev} {S S1 S2 : Sto} {ds ys : List DV} (hi : it ρ S = some (ds, S1)) (hl : lcL g c fe (dwipe ρ vs) ds S1 = some (ys, S2)) (hz : ys.length ≤ sizeLine) : dLcM it g c fe vs ρ S = some (.loc S2.length, S2 ++ [.lst ys]) := by
  unfold dLcM
  simp only [lcR_of hi hl hz]
theorem size_ok {n : Nat} (h : n ≤ 1000000) : n ≤ sizeLine := Nat.le_trans h (by decide)
end Dn

namespace Dn
open PySem PySem.Spec PyProof.Rows L2
/-! ### texts of single signs -/
abbrev one1 (c : Nat) : Str := ⟨#[c]⟩
def txt (cs : List Nat) : Str := ⟨cs.toArray⟩
theorem joinL_nil : ∀ ls : List (List Nat), TL.joinL [] ls = ls.flatten
  | [] => rfl
  | [a] => by simp [TL.joinL]
  | a :: b :: r => by
    have ih := joinL_nil (b :: r)
    simp only [TL.joinL] at ih ⊢
    simp [ih]
theorem join_ones (cs : List Nat) : Txt.join "" (cs.map one1) = txt cs := by
  apply TL.ext_tl
  rw [TL.join_eq, TL.tl_join]
  show TL.joinL [] _ = cs
  rw [joinL_nil, List.map_map]
  induction cs with
  | nil => rfl
  | cons a r ih =>
    rw [List.map_cons, List.flatten_cons, ih]
    rfl
theorem strsD_map {α : Type} {f : α → Str} : ∀ {l : List α}, strsD (l.map fun a => .str (f a)) = some (l.map f)
  | [] => rfl
  | a :: l => by
    rw [List.map_cons, List.map_cons]
    unfold strsD
    rw [strsD_map]
theorem ones_sum : ∀ cs : List Nat, ((cs.map one1).map (·.length)).sum = cs.length
  | [] => rfl
  | a :: r => by
    rw [List.map_cons, List.map_cons, List.sum_cons, ones_sum r]
    show 1 + _ = _ + 1
    omega
def abc : Str := "abcdefghijklmnopqrstuvwxyz"
theorem abc_at : ∀ k < 26, atI abc.cps.toList (k : Nat) = some (97 + k) := by decide +kernel
theorem abc_ix {S : Sto} {i : Int} (h0 : 0 ≤ i) (h1 : i < 26) : pIx (.str "abcdefghijklmnopqrstuvwxyz") (.int i) S = some (.str (one1 (97 + i.toNat)), S) := by
  have e := abc_at i.toNat (by omega)
  rw [Int.toNat_of_nonneg h0] at e
  exact ix_str (s := abc) (by decide) e
theorem All2.len {α β : Type} {P : α → β → Prop} : ∀ {as : List α} {bs : List β}, All2 P as bs → as.length = bs.length
  | _, _, .nil => rfl
  | _, _, .cons h t => by rw [List.length_cons, List.length_cons, t.len]
/-! ### equal data -/
mutual
/-- data that == can look at -/
def good : DV → Bool
  | .non => true
  | .bl _ => true
  | .int _ => true
  | .str s => PyData.strOk s
  | .tup ds => goodL ds
  | .lst _ ds => goodL ds
  | _ => false
def goodL : List DV → Bool
  | [] => true
  | d :: ds => good d && goodL ds
end
mutual
def deep : DV → Nat
  | .tup ds => deepL ds + 1
  | .lst _ ds => deepL ds + 1
  | _ => 0
def deepL : List DV → Nat
  | [] => 0
  | d :: ds => max (deep d) (deepL ds)
end
mutual
theorem toPy_good : ∀ {d : DV}, good d = true → ∃ p, toPy d = some p ∧ p.canLay0 = true ∧ p.depth = deep d
  | .non, _ => ⟨_, rfl, rfl, rfl⟩
  | .bl b, _ => ⟨_, rfl, rfl, rfl⟩
  | .int b, _ => ⟨_, rfl, rfl, rfl⟩
  | .str b, h => ⟨_, rfl, h, rfl⟩
  | .tup ds, h => by
    obtain ⟨p, h1, h2, h3⟩ := toPyL_good (ds := ds) h
    refine ⟨.tuple p, ?_, h2, ?_⟩
    · unfold toPy
      rw [h1]
    · show PyData.depthAll p + 1 = _
      rw [h3] <;> rfl
  | .lst k ds, h => by
    obtain ⟨p, h1, h2, h3⟩ := toPyL_good (ds := ds) h
    refine ⟨.list p, ?_, h2, ?_⟩
    · unfold toPy
      rw [h1]
    · show PyData.depthAll p + 1 = _
      rw [h3] <;> rfl
  | .tupx _, h => by cases h
  | .dik _ _ _, h => by cases h
  | .dit _ _ _, h => by cases h
  | .loc _, h => by cases h
theorem toPyL_good : ∀ {ds : List DV}, goodL ds = true → ∃ p, toPyL ds = some p ∧ PyData.canLayAll0 p = true ∧ PyData.depthAll p = deepL ds
  | [], _ => ⟨[], rfl, rfl, rfl⟩
  | d :: ds, h => by
    obtain ⟨h1, h2⟩ := Bool.and_eq_true_iff.mp (show (good d && goodL ds) = true from h)
    obtain ⟨p, a1, a2, a3⟩ := toPy_good h1
    obtain ⟨q, b1, b2, b3⟩ := toPyL_good h2
    refine ⟨p :: q, ?_, ?_, ?_⟩
    · unfold toPyL
      simp only [a1, b1]
    · show (p.canLay0 && PyData.canLayAll0 q) = true
      rw [a2, b2] <;> rfl
    · show max p.depth (PyData.depthAll q) = max (deep d) (deepL ds)
      rw [a3, b3]
end
/-! ### lists of texts, each once -/
theorem get_lt {n : Nat} {S : Sto} {c : Cell} (h : S[n]? = some c) : n < S.length := (List.getElem?_eq_some_iff.mp h).1
end Dn

/-! enumerate over a tuple -/
namespace Dn
open PySem PySem.Spec PyProof.Rows L2
section
variable {prog : Program} {w : World} {A : Around} {E : Value → Shared → Prop} {s : Shared}
end
section
variable {X : Cx} {e : Expr} {fa : DA}
end

/-! ### written texts are alike just where they are written alike -/
theorem charNat_inj {x y : Char} (h : x.toNat = y.toNat) : x = y := by
  apply Char.ext
  exact UInt32.toNat_inj.mp h
theorem mapNat_inj : ∀ {l m : List Char}, l.map Char.toNat = m.map Char.toNat → l = m
  | [], [], _ => rfl
  | [], _ :: _, h => by cases h
  | _ :: _, [], h => by cases h
  | x :: l, y :: m, h => by
    rw [List.map_cons, List.map_cons] at h
    injection h with h1 h2
    rw [charNat_inj h1, mapNat_inj h2]
@[simp] theorem ofString_inj {a b : String} : (Str.ofString a = Str.ofString b) = (a = b) := by
  apply propext
  constructor
  · intro h
    rw [Str.ofString_eq_toList, Str.ofString_eq_toList] at h
    have h2 : a.toList.map Char.toNat = b.toList.map Char.toNat := by
      have := congrArg (fun s : Str => s.cps.toList) h
      simpa using this
    exact String.toList_inj.mp (mapNat_inj h2)
  · intro h
    rw [h]
end Dn

namespace Dn
open PySem PySem.Spec PyProof.Rows L2
section
variable {f g : DE} {lo hi : DO} {ρ : Ev} {S : Sto} {p : DV → Option Int → Option Int → Sto → Option (DV × Sto)} {fa : DA} {pm : PM}
@[simp] theorem v_sl : dSl p f lo hi ρ S = (match f ρ S with | some (x, S1) => (match lo ρ S1 with | some (l, S2) => (match hi ρ S2 with | some (u, S3) => p x l u S3 | none => none) | none => none) | none => none) := (rfl)
@[simp] theorem dwipe_nil : dwipe ρ [] = ρ := (rfl)
@[simp] theorem dwipe_cons {v : Nat} {vs : List Nat} : dwipe ρ (v :: vs) = (dwipe ρ vs).set v none := (rfl)
@[simp] theorem v_oN : oNone ρ S = some (none, S) := (rfl)
@[simp] theorem v_oS : oSome f ρ S = (match f ρ S with | some (.int i, S1) => some (some i, S1) | _ => none) := (rfl)
@[simp] theorem v_slS {s : Str} {l u : Option Int} : pSl (.str s) l u S = (if s.length ≤ sizeLine then some (.str (cutS s l u), S) else none) := (rfl)
@[simp] theorem v_slL {k : LK} {xs : List DV} {l u : Option Int} : pSl (.lst k xs) l u S = some (.lst .own (cutD xs l u), S) := (rfl)
@[simp] theorem v_slT {xs : List DV} {l u : Option Int} : pSl (.tup xs) l u S = some (.tup (cutD xs l u), S) := (rfl)
@[simp] theorem v_mt : dMt pm f fa ρ S = (match f ρ S with | some (x, S1) => (match asL S1 x with | some _ => (match fa ρ S1 with | some (xs, S2) => pm x xs S2 | none => none) | none => none) | none => none) := (rfl)
theorem app_loc {n : Nat} {y : DV} {xs : List DV} (h : S[n]? = some (.lst xs)) (hz : xs.length < 16777216) : pAppend (.loc n) [y] S = some (.non, S.set n (.lst (xs ++ [y]))) := by
  unfold pAppend
  simp only [h]
  exact if_pos hz
theorem asL_loc {n : Nat} {xs : List DV} (h : S[n]? = some (.lst xs)) : asL S (.loc n) = some xs := by
  unfold asL
  simp only [h]
@[simp] theorem asL_lst {k : LK} {xs : List DV} : asL S (.lst k xs) = some xs := (rfl)
@[simp] theorem v_lenL {k : LK} {xs : List DV} : pLen [.lst k xs] S = some (.int xs.length, S) := (rfl)
@[simp] theorem v_lenT {xs : List DV} : pLen [.tup xs] S = some (.int xs.length, S) := (rfl)
@[simp] theorem v_lenS {x : Str} : pLen [.str x] S = (if x.length ≤ sizeLine then some (.int x.length, S) else none) := (rfl)
@[simp] theorem v_tupL {k : LK} {xs : List DV} : pTuple [.lst k xs] S = some (.tup xs, S) := (rfl)
@[simp] theorem v_tupT {xs : List DV} : pTuple [.tup xs] S = some (.tup xs, S) := (rfl)
@[simp] theorem v_listT {xs : List DV} : pList [.tup xs] S = some (.lst .own xs, S) := (rfl)
@[simp] theorem v_listL {k : LK} {xs : List DV} : pList [.lst k xs] S = some (.lst .own xs, S) := (rfl)
@[simp] theorem v_intB {b : Bool} : pInt [.bl b] S = some (.int (if b then 1 else 0), S) := (rfl)
@[simp] theorem v_intI {b : Int} : pInt [.int b] S = some (.int b, S) := (rfl)
@[simp] theorem v_chain {p q : P2} {f g h : DE} : dChain p q f g h ρ S = (match f ρ S with
  | some (x, S1) => (match g ρ S1 with
    | some (y, S2) => (match p x y S2 with
      | some (.bl true, S3) => (match h ρ S3 with
        | some (z, S4) => q y z S4
        | none => none)
      | some (.bl false, S3) => some (.bl false, S3)
      | _ => none)
    | none => none)
  | none => none) := (rfl)
@[simp] theorem v_addM {k l : LK} {xs ys : List DV} (hk : k ≠ .ext := by decide) (hl : l ≠ .ext := by decide) : pAddM (.lst k xs) (.lst l ys) S = (if xs.length + ys.length ≤ sizeLine then some (.loc S.length, S ++ [.lst (xs ++ ys)]) else none) := by
  cases k <;> cases l <;> first | rfl | exact absurd rfl hk | exact absurd rfl hl
@[simp] theorem ty_int {i : Int} : tyD S (.int i) = some .int := (rfl)
@[simp] theorem ty_str {i : Str} : tyD S (.str i) = some .str := (rfl)
@[simp] theorem ty_bl {i : Bool} : tyD S (.bl i) = some .bool := (rfl)
@[simp] theorem ty_non : tyD S .non = some .non := (rfl)
@[simp] theorem ty_tup {i : List DV} : tyD S (.tup i) = some .tuple := (rfl)
@[simp] theorem ty_own {i : List DV} : tyD S (.lst .own i) = some .list := (rfl)
@[simp] theorem ty_bor {i : List DV} : tyD S (.lst .bor i) = some .list := (rfl)
end
theorem All2.get {α β : Type} {P : α → β → Prop} : ∀ {as : List α} {bs : List β} {i : Nat} {a : α}, All2 P as bs → as[i]? = some a → ∃ b, bs[i]? = some b ∧ P a b
  | _, _, i, a, .nil, h => by simp at h
  | _, _, 0, a, .cons p t, h => by
    cases h
    exact ⟨_, rfl, p⟩
  | _, _, i + 1, a, .cons p t, h => by
    rw [List.getElem?_cons_succ] at h
    obtain ⟨b, h1, h2⟩ := t.get h
    exact ⟨b, by rw [List.getElem?_cons_succ]; exact h1, h2⟩
end Dn

/-! objects -/
namespace Dn
open PySem PySem.Spec PyProof.Rows L2
def insD (S : Sto) : DV → Option (Str × List (Str × DV))
  | .loc n => match S[n]? with
    | some (.ins C fs) => some (C, fs)
    | _ => none
  | _ => none
theorem insD_ok {F : Fm} {S : Sto} {H : Hp} {d : DV} {v : V} {C : Str} {fs : List (Str × DV)} (R : Rep F S H) (r : Rel F d v) (h : insD S d = some (C, fs)) : ∃ n a dx xs, d = .loc n ∧ S[n]? = some (.ins C fs) ∧ F.lm[n]? = some a ∧ v = .ref a ∧ H a = some (.ins (He.ga F.K C) dx ((fs.map (·.1)).zip xs)) ∧ RelL F (fs.map (·.2)) xs := by
  unfold insD at h
  split at h
  · rename_i n
    split at h
    · rename_i C' fs' hc
      cases h
      obtain ⟨a, ha, rfl⟩ := r
      obtain ⟨⟨dx, xs, e, rl⟩, _⟩ := R.cell n _ a hc ha
      exact ⟨n, a, dx, xs, rfl, hc, ha, rfl, e, rl⟩
    · cases h
  · cases h
theorem lookup_ok {F : Fm} {f : Str} : ∀ {fs : List (Str × DV)} {xs : List V}, RelL F (fs.map (·.2)) xs → (∀ {d}, fs.lookup f = some d → ∃ v, ((fs.map (·.1)).zip xs).lookup f = some v ∧ Rel F d v) ∧ (fs.lookup f = none → ((fs.map (·.1)).zip xs).lookup f = none)
  | [], xs, h => ⟨(fun {d} q => nomatch q), fun _ => by rw [List.map_nil, List.zip_nil_left] <;> rfl⟩
  | (g, d0) :: fs, xs, h => by
    obtain ⟨x, r, rfl, h1, h2⟩ := h
    obtain ⟨i1, i2⟩ := lookup_ok (f := f) h2
    rw [List.map_cons, List.zip_cons_cons]
    cases q : (f == g) with
    | true =>
      refine ⟨fun {d} e => ?_, fun e => ?_⟩
      · simp only [List.lookup_cons, q] at e
        cases e
        exact ⟨x, by simp only [List.lookup_cons, q], h1⟩
      · simp only [List.lookup_cons, q] at e
        cases e
    | false =>
      refine ⟨fun {d} e => ?_, fun e => ?_⟩
      · simp only [List.lookup_cons, q] at e ⊢
        exact i1 e
      · simp only [List.lookup_cons, q] at e ⊢
        exact i2 e
def putFD (f : Str) (v : DV) : List (Str × DV) → List (Str × DV)
  | [] => [(f, v)]
  | (g, x) :: r => if g = f then (g, v) :: r else (g, x) :: putFD f v r
theorem putF_ok {F : Fm} {f : Str} {d : DV} {v : V} (rd : Rel F d v) : ∀ {fs : List (Str × DV)} {xs : List V}, RelL F (fs.map (·.2)) xs → ∃ ys, RelL F ((putFD f d fs).map (·.2)) ys ∧ putF f v ((fs.map (·.1)).zip xs) = ((putFD f d fs).map (·.1)).zip ys
  | [], xs, h => ⟨[v], rel1 rd, by rw [List.map_nil, List.zip_nil_left] <;> rfl⟩
  | (g, d0) :: fs, xs, h => by
    obtain ⟨x, r, rfl, h1, h2⟩ := h
    rw [List.map_cons, List.zip_cons_cons]
    unfold putFD putF
    by_cases q : g = f
    · simp only [q, if_true]
      exact ⟨v :: r, .cons rd h2, by rw [List.map_cons, List.zip_cons_cons]⟩
    · simp only [q, if_false]
      obtain ⟨ys, i1, i2⟩ := putF_ok (f := f) rd h2
      exact ⟨x :: ys, .cons h1 i1, by rw [List.map_cons, List.zip_cons_cons, i2]⟩
def dFld (T : ATab) (f : Str) (o : DE) : DE := fun ρ S => match o ρ S with
  | some (x, S1) => (match insD S1 x with
    | some (C, fs) => if T.contains (C, f) = true then (match fs.lookup f with
      | some d => some (d, S1)
      | none => none) else none
    | none => none)
  | none => none
/-- what is known of the classes -/
def ATOk (K : PySem.W.Frag) (T : ATab) : Prop := ∀ C f, T.contains (C, f) = true → Cls K (He.ga K C) ∧ NoAttr K (He.ga K C) f
section
variable {X : Cx} {e o : Expr} {g : DE} {T : ATab} {f : Str} {pos : Pos}
theorem ed_fld (hT : ATOk X.K T) (h : ED X e g) (hb : attributeBase e f X.env (eval e X.env) = eval e X.env := by rfl) : ED X (.Attribute e f pos) (dFld T f g) :=
  .of (pe_fld h.pe hb) fun F S H ρ σ d S' Q hk R rr hf hq => by
    unfold dFld at hf
    split at hf
    · rename_i x S1 h1
      split at hf
      · rename_i C fs hi
        obtain ⟨ht, hf⟩ := of_ite hf
        split at hf
        · rename_i d0 hl
          cases hf
          refine rdE.go hk R rr h1 fun F1 H1 v le hk1 R1 r1 rv => ?_
          obtain ⟨n, a, dx, xs, rfl, hc, ha, rfl, e, rl⟩ := insD_ok R1 rv hi
          obtain ⟨w, e1, rw_⟩ := (lookup_ok (f := f) rl).1 hl
          obtain ⟨c1, c2⟩ := hT C f ht
          rw [hk1] at e
          exact ⟨a, _, dx, _, w, rfl, e, c1, c2, e1, hq F1 H1 w le R1 rw_⟩
        · cases hf
      · cases hf
    · cases hf
def dSetF (T : ATab) (f : Str) (v o : DE) : DS := fun ρ S => match v ρ S with
  | some (y, S1) => (match o ρ S1 with
    | some (.loc n, S2) => (match insD S2 (.loc n) with
      | some (C, fs) => if T.contains (C, f) = true ∧ fs.length < 1000 then some (.nx ρ (S2.set n (.ins C (putFD f y fs)))) else none
      | none => none)
    | _ => none)
  | none => none
theorem len_zip {fs : List (Str × DV)} {F : Fm} {xs : List V} (rl : RelL F (fs.map (·.2)) xs) : ((fs.map (·.1)).zip xs).length = fs.length := by
  have := rl.length
  rw [List.length_map] at this
  rw [List.length_zip, List.length_map, ← this, Nat.min_self]
theorem sd_setF {v : Expr} {gv : DE} {spos pos' : Pos} (hT : ATOk X.K T) (hv : ED X v gv) (ho : ED X o g) (hs : swapsWith v (some (.Attribute o f pos')) spos.line X.env = pure false := by rfl) : SD X (.Assign [.Attribute o f pos'] v spos) (dSetF T f gv g) :=
  .of (ps_fld ho.pe hv.pe hs) fun F S H ρ σ oo D hk R rr hf hq => by
    unfold dSetF at hf
    split at hf
    · rename_i y S1 h1
      split at hf
      · rename_i n S2 h2
        split at hf
        · rename_i C fs hi
          obtain ⟨⟨ht, hlen⟩, hf⟩ := of_ite hf
          cases hf
          refine rdE.go hk R rr h1 fun F1 H1 vy le1 hk1 R1 r1 ry => rdE.go hk1 R1 r1 h2 fun F2 H2 vx le2 hk2 R2 r2 rx => ?_
          obtain ⟨n', a, dx, xs, e0, hc, ha, rfl, e, rl⟩ := insD_ok R2 rx hi
          cases e0
          obtain ⟨c1, c2⟩ := hT C f ht
          obtain ⟨ys, i1, i2⟩ := putF_ok (f := f) (ry.le le2) rl
          have e' := e
          rw [hk2] at e'
          refine ⟨a, _, dx, _, rfl, e', c1, c2, by rw [len_zip rl]; exact hlen, hq F2 _ (le1.trans le2) ?_ σ r2⟩
          rw [i2]
          exact R2.write hc rfl ha (fun _ q => nomatch q) rfl ⟨dx, ys, by rw [upd_same, hk2], i1⟩
        · cases hf
      · cases hf
    · cases hf
end

/-! ### methods, makers -/
structure MtC (P : Program) (w : World) (K : PySem.W.Frag) (mg : Str → Option Value) (base : Heap) (C m : Str) (k : Nat) (ps : List Str) (dvs : List V) (f : PL) : Prop where
  ex : ∃ (a : Addr) (fd : FuncData) (ds : List Value), Cls K (He.ga K C) ∧ Meth K (He.ga K C) m a ∧ FnOk P w K mg base CX0 k a fd ps (spS K ps.length f) ∧ Binds K fd ps ds ∧ Vals dvs ds
structure MkC (P : Program) (w : World) (K : PySem.W.Frag) (mg : Str → Option Value) (base : Heap) (C : Str) (k : Nat) (ps : List Str) (dvs : List V) (f : PL) : Prop where
  ex : ∃ (a : Addr) (fd : FuncData) (ds : List Value), mg C = some (.ref (He.ga K C)) ∧ Mk K (He.ga K C) a ∧ FnOk P w K mg base CX0 k a fd ps (spS K ps.length f) ∧ Binds K fd ps ds ∧ Vals dvs ds
def dMeth (C m : Str) (f : PL) (dds : List DV) (o : DE) (fa : DA) : DE := fun ρ S => match o ρ S with
  | some (x, S1) => (match insD S1 x with
    | some (C', fs) => if C' = C ∧ fs.lookup m = none then (match fa ρ S1 with
      | some (xs, S2) => f (x :: (xs ++ dds)) S2
      | none => none) else none
    | none => none)
  | none => none
def dMake (C : Str) (f : PL) (dds : List DV) (fa : DA) : DE := fun ρ S => match fa ρ S with
  | some (xs, S1) => (match f (.loc S1.length :: (xs ++ dds)) (S1 ++ [.ins C []]) with
    | some (.non, S2) => some (.loc S1.length, S2)
    | _ => none)
  | none => none
section
variable {X : Cx} {e o : Expr} {es : List Expr} {g : DE} {fa : DA} {C m x : Str} {k j : Nat} {ps : List Str} {dvs : List V} {dds : List DV} {np n : Nat} {b0 : DS} {p pos apos : Pos}
theorem meth_go {a : Addr} {E : XK} (hd : ∀ F : Fm, RelL F dds dvs) {F : Fm} {S S' : Sto} {H : Hp} {ρ : Ev} {σ : L2.St} {d : DV} {Q : VK} (hk : F.K = X.K) (R : Rep F S H) (rr : RelE F ρ σ) (hf : dMeth C m (runF np n b0) dds g fa ρ S = some (d, S')) (hq : PostE F S' d Q) :
    tMeth (He.ga X.K C) m (spS X.K np (runF np n b0)) dvs E (rdE X.K g) (rdA X.K fa) σ H Q := by
  unfold dMeth at hf
  split at hf
  · rename_i x S1 h1
    split at hf
    · rename_i C' fs hi
      obtain ⟨hc0, hf2⟩ := of_ite hf
      clear hf
      obtain ⟨e0, hl⟩ := hc0
      subst e0
      cases h2 : fa ρ S1 with
      | none =>
        rw [h2] at hf2
        cases hf2
      | some z =>
        obtain ⟨xs, S2⟩ := z
        rw [h2] at hf2
        refine rdE.go hk R rr h1 fun F1 H1 v le hk1 R1 r1 rv => ?_
        obtain ⟨n, a, dx, us, rfl, hc, ha, rfl, e, rl⟩ := insD_ok R1 rv hi
        have hlk := (lookup_ok (f := m) rl).2 hl
        rw [hk1] at e
        refine ⟨a, dx, _, rfl, e, hlk, rdA.go hk1 R1 r1 h2 fun F2 H2 vs le2 hk2 R2 r2 ra => ?_⟩
        exact ⟨F2, S2, .loc n :: (xs ++ dds), d, S', hk2, R2, .cons (rv.le le2) (ra.append (hd F2)), runF_len _ _ _ hf2, hf2, hq.le (le.trans le2)⟩
    · cases hf
  · cases hf
theorem ed_meth (M : MtC X.prog X.w X.K X.mg X.base C m k ps dvs (runF np n b0)) (hn : ps.length = np) (hr : Room j X.A) (hj : k ≤ j) (hd : ∀ F : Fm, RelL F dds dvs) (ho : ED X o g) (ha : AD X (e :: es) fa) {pl : Sem Bool}
    (hst : starEach (e :: es) X.env = (false, eval e X.env) :: starEach es X.env := by rfl) (hpl : (backTo pos (starEach es X.env)).any (·.1) = false := by rfl)
    (ht : eval (.Call (.Attribute o m apos) (e :: es) [] pos) X.env = (do
      let ov ← eval o X.env
      standAt apos.atName
      let (f, first) ← holding [ov] (getMethod ov m pl)
      callWith pos f first (backTo pos (starEach (e :: es) X.env)) (backToKw pos (keywordEach [] X.env))) := by rfl) : ED X (.Call (.Attribute o m apos) (e :: es) [] pos) (dMeth C m (runF np n b0) dds g fa) := by
  subst hn
  obtain ⟨a, fd, ds, h1, h2, h3, h4, h5⟩ := M.ex
  exact .of (pe_meth (E := E0) ho.pe h1 h2 h3 (hr.mono hj) h4 h5 pass0 ha.pa hst hpl ht) fun F S H ρ σ d S' Q hk R rr hf hq => meth_go (a := a) hd hk R rr hf hq
theorem ed_meth0 (M : MtC X.prog X.w X.K X.mg X.base C m k ps dvs (runF np n b0)) (hn : ps.length = np) (hr : Room j X.A) (hj : k ≤ j) (hd : ∀ F : Fm, RelL F dds dvs) (ho : ED X o g) {pl : Sem Bool}
    (ht : eval (.Call (.Attribute o m apos) [] [] pos) X.env = (do
      let ov ← eval o X.env
      standAt apos.atName
      let (f, first) ← holding [ov] (getMethod ov m pl)
      callWith pos f first (backTo pos (starEach [] X.env)) (backToKw pos (keywordEach [] X.env))) := by rfl) : ED X (.Call (.Attribute o m apos) [] [] pos) (dMeth C m (runF np n b0) dds g aNil) := by
  subst hn
  obtain ⟨a, fd, ds, h1, h2, h3, h4, h5⟩ := M.ex
  refine .of (pe_meth0 (E := E0) ho.pe h1 h2 h3 (hr.mono hj) h4 h5 pass0 ht) fun F S H ρ σ d S' Q hk R rr hf hq => ?_
  have g0 := meth_go (a := a) (E := E0) hd hk R rr hf hq
  obtain ⟨F0, S0, ρ0, x0, S10, q1, q2, q3, q4, q5⟩ := g0
  refine ⟨F0, S0, ρ0, x0, S10, q1, q2, q3, q4, fun F' H' v le R' rv => ?_⟩
  obtain ⟨a', dx, fs, z1, z2, z3, z4⟩ := q5 F' H' v le R' rv
  refine ⟨a', dx, fs, z1, z2, z3, ?_⟩
  obtain ⟨F9, S9, ρ9, x9, S19, y1, y2, y3, y4, y5⟩ := z4
  cases (show some (([] : List DV), S9) = some (x9, S19) from y4)
  exact y5 F9 H' [] (.refl F9) y2 rfl
theorem make_go {E : XK} (hd : ∀ F : Fm, RelL F dds dvs) {F : Fm} {S S' : Sto} {H : Hp} {ρ : Ev} {σ : L2.St} {d : DV} {Q : VK} (hk : F.K = X.K) (R : Rep F S H) (rr : RelE F ρ σ) (hf : dMake C (runF np n b0) dds fa ρ S = some (d, S')) (hq : PostE F S' d Q) :
    tMake (He.ga X.K C) (spS X.K np (runF np n b0)) dvs E (rdA X.K fa) σ H Q := by
  unfold dMake at hf
  split at hf
  · rename_i xs S1 h1
    split at hf
    · rename_i S2 h2
      cases hf
      refine rdA.go hk R rr h1 fun F1 H1 vs le hk1 R1 r1 ra x dx hx hdx hne => ?_
      have R2 := R1.beside (o := .own x) hdx (fun _ q => nomatch q)
      have hx2 : upd H1 dx (.own x) x = none := by rw [upd_ne fun q => hne q.symm]; exact hx
      have R3 := R2.alloc (o := .ins (He.ga X.K C) dx []) (c := .ins C []) hx2 (fun _ q => nomatch q) ⟨dx, [], by rw [upd_same, show (F1.cell x).K = X.K from hk1] <;> rfl, rfl⟩
      have le3 := F1.cell_le x
      have rloc : Rel (F1.cell x) (.loc S1.length) (.ref x) := ⟨x, by rw [← R1.len]; exact get_len _ _, rfl⟩
      refine ⟨F1.cell x, S1 ++ [.ins C []], .loc S1.length :: (xs ++ dds), .non, S', hk1, R3, .cons rloc ((ra.append (hd F1)).le le3), runF_len _ _ _ h2, h2, fun F' H' v le' R' rv => ⟨rv, ?_⟩⟩
      exact hq F' H' (.ref x) ((le.trans le3).trans le') R' (rloc.le le')
    · cases hf
  · cases hf
theorem ed_make (M : MkC X.prog X.w X.K X.mg X.base x k ps dvs (runF np n b0)) (hn : ps.length = np) (hr : Room j X.A) (hj : k + 1 ≤ j) (hg : Gl X x) (hd : ∀ F : Fm, RelL F dds dvs) (ha : AD X (e :: es) fa) (hdb : (x == ("__debug__" : Str)) = false := by decide)
    (he : starEach (e :: es) X.env = (false, eval e X.env) :: starEach es X.env := by rfl) (hpl : (backTo pos (starEach es X.env)).any (·.1) = false := by rfl) : ED X (.Call (.Name x p) (e :: es) [] pos) (dMake x (runF np n b0) dds fa) := by
  subst hn
  obtain ⟨a, fd, ds, h1, h2, h3, h4, h5⟩ := M.ex
  exact .of (pe_make (E := E0) h2 h3 (hr.mono hj) hg h1 h4 h5 pass0 ha.pa hdb he hpl) fun F S H ρ σ d S' Q hk R rr hf hq => make_go hd hk R rr hf hq
end
theorem MtC.of {P : Program} {w : World} {K : PySem.W.Frag} {mg : Str → Option Value} {base : Heap} {C m x : Str} {k : Nat} {ps : List Str} {f : PL} {a : Addr} {fd : FuncData} {qual : Str} {params : Arguments} {body : List Stmt} {scope : Scope}
    (F : FunD K x qual params body scope [] [] a fd) (hc : (He.Fa.cls C).ok K = true) (hm : (He.Fa.meth C m).ok K = true) (ha : a = He.ma K (He.ga K C) m) (h : FnOk P w K mg base CX0 k a fd ps (spS K ps.length f))
    (hb : ∀ (kV doc pm : Value) (an : Option Addr) (cdv ct : Value) (us : List Value), us.length = ps.length → bindArgs (PySem.W.fnOf x qual params body scope .none kV doc pm an cdv ct) ⟨us, []⟩ = pure (ps.zip us)) : MtC P w K mg base C m k ps [] f := by
  subst ha
  exact ⟨_, fd, [], He.cls_ok hc, He.meth_ok hm, h, F.bindsN hb, .nil⟩
theorem MkC.of {P : Program} {w : World} {K : PySem.W.Frag} {mg : Str → Option Value} {base : Heap} {C x : Str} {k : Nat} {ps : List Str} {f : PL} {a : Addr} {fd : FuncData} {qual : Str} {params : Arguments} {body : List Stmt} {scope : Scope}
    (F : FunD K x qual params body scope [] [] a fd) (hg : mg C = some (.ref (He.ga K C))) (hm : (He.Fa.mkr C).ok K = true) (ha : a = He.ma K (He.ga K C) "__init__") (h : FnOk P w K mg base CX0 k a fd ps (spS K ps.length f))
    (hb : ∀ (kV doc pm : Value) (an : Option Addr) (cdv ct : Value) (us : List Value), us.length = ps.length → bindArgs (PySem.W.fnOf x qual params body scope .none kV doc pm an cdv ct) ⟨us, []⟩ = pure (ps.zip us)) : MkC P w K mg base C k ps [] f := by
  subst ha
  exact ⟨_, fd, [], hg, He.mkr_ok hm, h, F.bindsN hb, .nil⟩
theorem atOk_of {K : PySem.W.Frag} {T : ATab} (h : atB K T = true) : ATOk K T := fun C f hc => by
  have h1 := List.all_eq_true.mp h (C, f) (List.contains_iff_mem.mp hc)
  obtain ⟨a, b⟩ := Bool.and_eq_true_iff.mp h1
  exact ⟨He.cls_ok a, He.noat_ok b⟩
end Dn

/-! loops and comprehensions over a list that may be changed elsewhere: read place by place -/
namespace Dn
open PySem PySem.Spec PyProof.Rows L2
def forV (n : Nat) (g : DG) (body : DS) : Nat → Nat → DS
  | 0, _ => fun _ _ => none
  | m + 1, i => fun ρ S => match asL S (.loc n) with
    | some ds => (match ds[i]? with
      | some d => (match g d ρ S with
        | some (ρ1, S1) => (match body ρ1 S1 with
          | some (.nx ρ2 S2) => forV n g body m (i + 1) ρ2 S2
          | some (.ct ρ2 S2) => forV n g body m (i + 1) ρ2 S2
          | some (.bk ρ2 S2) => some (.nx ρ2 S2)
          | some (.rt v S2) => some (.rt v S2)
          | none => none)
        | none => none)
      | none => some (.nx ρ S))
    | none => none
def dForV (f : DE) (g : DG) (body : DS) (m : Nat) : DS := fun ρ S => match f ρ S with
  | some (.loc n, S1) => forV n g body m 0 ρ S1
  | _ => none
theorem forV_go {f : DE} {g : DG} {body : DS} {m : Nat} {F : Fm} {S : Sto} {H : Hp} {ρ : Ev} {σ : L2.St} {o : Out} {D : Ends} {K : PySem.W.Frag} (hk : F.K = K) (R : Rep F S H) (rr : RelE F ρ σ) (hf : dForV f g body m ρ S = some o) (hq : PostS F o D) : tFor (iList K (rdE K f)) (rdG K g) (rdS K body) D σ H := by
  unfold dForV at hf
  split at hf
  · rename_i n S1 h1
    refine rdE.go hk R rr h1 fun F1 H1 v le1 hk1 R1 r1 rv => ?_
    have rv0 := rv
    obtain ⟨a, ha, rfl⟩ := rv
    have live : ∀ {F' : Fm} {S' : Sto} {H' : Hp} {ds : List DV}, Le F1 F' → Rep F' S' H' → asL S' (.loc n) = some ds → ∃ xs, SqL K H' a xs ∧ RelL F' ds xs := fun {F' S' H' ds} le R' e => by
      obtain ⟨a', xs, e1, hs, rl⟩ := asL_sq R' (rv0.le le) e
      cases e1
      rw [le.k.trans hk1] at hs
      exact ⟨xs, hs, rl⟩
    cases m with
    | zero => cases hf
    | succ m0 =>
      have h0 : ∃ ds, asL S1 (.loc n) = some ds := by
        unfold forV at hf
        cases e : asL S1 (.loc n) with
        | none =>
          rw [e] at hf
          cases hf
        | some ds => exact ⟨ds, rfl⟩
      obtain ⟨ds0, h0⟩ := h0
      obtain ⟨xs0, hs0, _⟩ := live (.refl F1) R1 h0
      refine ⟨a, rfl, ⟨xs0, hs0⟩, fun i m σ H => ∃ F' S' ρ', Le F1 F' ∧ Rep F' S' H ∧ RelE F' ρ' σ ∧ forV n g body m i ρ' S' = some o, ⟨m0 + 1, F1, S1, ρ, .refl F1, R1, r1, hf⟩, ?_⟩
      rintro i m σ H ⟨F', S', ρ', le', R', r', hf'⟩
      cases m with
      | zero => cases hf'
      | succ m =>
        unfold forV at hf'
        cases e : asL S' (.loc n) with
        | none =>
          rw [e] at hf'
          cases hf'
        | some ds =>
          obtain ⟨xs, hs, rl⟩ := live le' R' e
          simp only [e] at hf'
          cases ed : ds[i]? with
          | none =>
            simp only [ed] at hf'
            cases hf'
            refine .inl ⟨⟨xs, hs, by rw [← rl.length]; exact List.getElem?_eq_none_iff.mp ed⟩, hq F' H (le1.trans le') R' σ r'⟩
          | some d =>
            simp only [ed] at hf'
            obtain ⟨x, hx, rx⟩ := rl.get ed
            refine .inr ⟨⟨xs, x, hs, hx⟩, fun σ' H' => ∃ m', m' < m + 1 ∧ ∃ F' S' ρ', Le F1 F' ∧ Rep F' S' H' ∧ RelE F' ρ' σ' ∧ forV n g body m' (i + 1) ρ' S' = some o, fun _ _ z => z, fun y H2 yl => ?_⟩
            obtain ⟨rfl, y2⟩ := yl
            have ey := (y2 xs hs).symm.trans hx
            cases ey
            cases hg : g d ρ' S' with
            | none =>
              rw [hg] at hf'
              cases hf'
            | some z =>
              obtain ⟨ρ1, S3⟩ := z
              simp only [hg] at hf'
              refine ⟨F', S', ρ', d, ρ1, S3, le'.k.trans hk1, R', r', rx, hg, fun F3 H3 σ3 le3 R3 r3 => ?_⟩
              have le03 : Le F1 F3 := le'.trans le3
              split at hf'
              · rename_i ρ2 S2 hb
                exact rdS.go (le03.k.trans hk1) R3 r3 hb fun F4 H4 le4 R4 σ4 r4 => ⟨m, Nat.lt_succ_self _, F4, S2, ρ2, le03.trans le4, R4, r4, hf'⟩
              · rename_i ρ2 S2 hb
                exact rdS.go (le03.k.trans hk1) R3 r3 hb fun F4 H4 le4 R4 σ4 r4 => ⟨m, Nat.lt_succ_self _, F4, S2, ρ2, le03.trans le4, R4, r4, hf'⟩
              · rename_i ρ2 S2 hb
                cases hf'
                exact rdS.go (le03.k.trans hk1) R3 r3 hb fun F4 H4 le4 R4 σ4 r4 => hq F4 H4 (le1.trans (le03.trans le4)) R4 σ4 r4
              · rename_i v S2 hb
                cases hf'
                exact rdS.go (le03.k.trans hk1) R3 r3 hb fun F4 H4 le4 R4 v rv => hq F4 H4 (le1.trans (le03.trans le4)) R4 v rv
              · cases hf'
  · cases hf
theorem sd_forV {X : Cx} {st : Stmt} {f : DE} {g : DG} {body : DS} (m : Nat) (h : PS X st (tFor (iList X.K (rdE X.K f)) (rdG X.K g) (rdS X.K body))) : SD X st (dForV f g body m) := .of h fun F S H ρ σ o D hk R rr hf hq => forV_go hk R rr hf hq

section
variable {X : Cx} {e : Expr} {st : Stmt} {f : DE} {g : DG} {c fe : DE} {vs : List Nat} {t : TG} {tt : TT}
end
end Dn

namespace Dn
open PySem PySem.Spec PyProof.Rows L2
section
variable {X : Cx} {o value a b e : Expr} {f : Str} {pos pos' tpos : Pos} {T : ATab} {g gv : DE}
/-! ### o.f op= v -/
/-! ### is, is not of truths -/
def pIsB (neg : Bool) : P2 := fun x y S => match x, y with
  | .bl a, .bl b => some (.bl (if neg then !decide (a = b) else decide (a = b)), S)
  | _, _ => none
variable {f1 f2 : DE}
@[simp] theorem v_isB {a b : Bool} {S : Sto} : pIsB false (.bl a) (.bl b) S = some (.bl (decide (a = b)), S) := (rfl)
@[simp] theorem v_isnotB {a b : Bool} {S : Sto} : pIsB true (.bl a) (.bl b) S = some (.bl (!decide (a = b)), S) := (rfl)
/-! ### {k: v, ..} -/
def dPairs : List (DE × DE) → Ev → Sto → Option (List (DV × DV) × Sto)
  | [], _, S => some ([], S)
  | (k, v) :: r, ρ, S => match k ρ S with
    | some (x, S1) => (match v ρ S1 with
      | some (y, S2) => (match dPairs r ρ S2 with
        | some (ps, S3) => some ((x, y) :: ps, S3)
        | none => none)
      | none => none)
    | none => none
theorem pairs_go {K : PySem.W.Frag} : ∀ {l : List (DE × DE)} {F : Fm} {S S1 : Sto} {H : Hp} {ρ : Ev} {σ : L2.St} {ps : List (DV × DV)} {Q : List (V × V) → Hp → Prop}, F.K = K → Rep F S H → RelE F ρ σ → dPairs l ρ S = some (ps, S1) →
    (∀ F' H' xs ys, Le F F' → F'.K = K → Rep F' S1 H' → RelE F' ρ σ → RelL F' (ps.map (·.1)) xs → RelL F' (ps.map (·.2)) ys → Q (xs.zip ys) H') → tPairs (l.map fun p => (rdE K p.1, rdE K p.2)) σ H Q
  | [], F, S, S1, H, ρ, σ, ps, Q, hk, R, rr, hf, k => by
    cases (show some (([] : List (DV × DV)), S) = some (ps, S1) from hf)
    exact k F H [] [] (.refl F) hk R rr rfl rfl
  | (tk, tv) :: r, F, S, S1, H, ρ, σ, ps, Q, hk, R, rr, hf, k => by
    unfold dPairs at hf
    split at hf
    · rename_i x Sa h1
      split at hf
      · rename_i y Sb h2
        split at hf
        · rename_i qs Sc h3
          cases hf
          exact rdE.go hk R rr h1 fun F1 H1 vx le1 hk1 R1 r1 rx => rdE.go hk1 R1 r1 h2 fun F2 H2 vy le2 hk2 R2 r2 ry => pairs_go hk2 R2 r2 h3 fun F3 H3 xs ys le3 hk3 R3 r3 ra rb =>
            k F3 H3 (vx :: xs) (vy :: ys) ((le1.trans le2).trans le3) hk3 R3 r3 (.cons (rx.le (le2.trans le3)) ra) (.cons (ry.le le3) rb)
        · cases hf
      · cases hf
    · cases hf
structure PpD (X : Cx) (pos : Pos) (keys : List (Option Expr)) (values : List Expr) (l : List (DE × DE)) : Prop where
  pp : PPs X pos keys values (l.map fun p => (rdE X.K p.1, rdE X.K p.2))
theorem ppd_nil : PpD X pos [] [] [] := ⟨pps_nil⟩
theorem ppd_cons {k v : Expr} {ks : List (Option Expr)} {vs : List Expr} {dk dv : DE} {l : List (DE × DE)} (hk : ED X k dk) (hv : ED X v dv) (hr : PpD X pos ks vs l) : PpD X pos (some k :: ks) (v :: vs) ((dk, dv) :: l) := ⟨pps_cons hk.pe hv.pe hr.pp⟩
def dDisp (l : List (DE × DE)) : DE := fun ρ S => match dPairs l ρ (S ++ [.dik [] []]) with
  | some (ps, S2) => (match S2[S.length]?, keysD (ps.map (·.1)) with
    | some (.dik [] []), some ks => if ks.Nodup ∧ ks.length ≤ 15 then some (.loc S.length, S2.set S.length (.dik ks (ps.map (·.2)))) else none
    | _, _ => none)
  | none => none
theorem merge_new : ∀ {more kvs : List (Key × V)}, (more.map (·.1)).Nodup → (∀ k ∈ more.map (·.1), valV kvs k = none) → mergeK kvs more = kvs ++ more
  | [], kvs, _, _ => (List.append_nil _).symm
  | (k, v) :: r, kvs, hn, hv => by
    rw [List.map_cons, List.nodup_cons] at hn
    have e : putK kvs k v = kvs ++ [(k, v)] := putK_new v (hv k (by simp))
    have ih := merge_new (more := r) (kvs := putK kvs k v) hn.2 fun j hj => by
      rw [valV_put, if_neg fun q => hn.1 (by rw [← q]; exact hj)]
      exact hv j (by rw [List.map_cons]; exact List.mem_cons_of_mem _ hj)
    show mergeK (putK kvs k v) r = _
    rw [ih, e, List.append_assoc] <;> rfl
theorem zip_kv : ∀ {ks : List Key} {ys : List V}, (ks.map kV).zip ys = (ks.zip ys).map fun kv => (kV kv.1, kv.2)
  | [], ys => by rw [List.map_nil, List.zip_nil_left, List.zip_nil_left] <;> rfl
  | k :: ks, [] => by rw [List.zip_nil_right, List.zip_nil_right] <;> rfl
  | k :: ks, y :: ys => by rw [List.map_cons, List.zip_cons_cons, List.zip_cons_cons, List.map_cons, zip_kv]
theorem keysD_len : ∀ {ds : List DV} {ks : List Key}, keysD ds = some ks → ks.length = ds.length
  | [], ks, h => by
    cases (show some ([] : List Key) = some ks from h)
    rfl
  | d :: ds, ks, h => by
    unfold keysD at h
    split at h
    · split at h
      · rename_i ks' h2
        cases h
        rw [List.length_cons, List.length_cons, keysD_len h2]
      · cases h
    · cases h
theorem ed_disp {keys : List (Option Expr)} {values : List Expr} {l : List (DE × DE)} (h : PpD X pos keys values l) (hall : keys.all (·.isSome) = true := by rfl) (hl : keys.length = values.length := by rfl) (h0 : keys ≠ [] := by exact fun q => nomatch q)
    (h15 : keys.length ≤ 15 := by decide) : ED X (.Dict keys values pos) (dDisp l) :=
  .of (pe_disp h.pp hall hl h0 h15) fun F S H ρ σ d S' Q hk R rr hf hq p hp => by
    unfold dDisp at hf
    split at hf
    · rename_i ps S2 h1
      split at hf
      · rename_i ks hc hks
        obtain ⟨⟨hnd, hle⟩, hf⟩ := of_ite hf
        cases hf
        have R' := R.alloc (o := .dK []) (c := .dik [] []) hp (fun _ q => nomatch q) ⟨[], rfl, upd_same, rfl⟩
        have le := F.cell_le p
        have hat : (F.cell p).lm[S.length]? = some p := by rw [← R.len]; exact get_len _ _
        refine pairs_go (F := F.cell p) hk R' (rr.le le) h1 fun F2 H2 xs ys le2 hk2 R2 r2 ra rb => ?_
        have ha2 : F2.lm[S.length]? = some p := prefix_get le2.m hat
        obtain ⟨⟨us, hz, e, ru⟩, _⟩ := R2.cell _ _ p hc ha2
        have e' : H2 p = some (.dK []) := by rw [e, List.zip_nil_left]
        obtain rfl := keysD_ok ra hks
        have hlen : ks.length = ys.length := by
          rw [← rb.length, List.length_map, keysD_len hks, List.length_map]
        refine ⟨e', ks.zip ys, zip_kv, by rw [List.length_zip, ← hlen, Nat.min_self]; exact hle, ?_⟩
        have hm : mergeK [] (ks.zip ys) = ks.zip ys := by
          rw [merge_new (by rw [List.map_fst_zip (by omega)]; exact hnd) fun _ _ => rfl, List.nil_append]
        rw [hm]
        refine hq F2 _ _ (le.trans le2) (R2.write hc rfl ha2 (fun _ q => nomatch q) rfl ⟨ys, ?_, upd_same, rb⟩) ⟨p, ha2, rfl⟩
        rw [List.length_map, keysD_len hks, List.length_map]
      · cases hf
    · cases hf
end
end Dn

namespace Dn
open PySem PySem.Spec PyProof.Rows L2
/-! ### objects' fields, evaluated -/
section
variable {T : ATab} {f C m : Str} {g o v e : DE} {fa : DA} {ρ : Ev} {S S0 S1 S2 : Sto} {n : Nat} {fs fs' : List (Str × DV)} {d x y : DV} {F : PL} {xs : List DV} {p : P2}
theorem fld_at (hg : g ρ S0 = some (.loc n, S)) (hS : S[n]? = some (.ins C fs)) (hT : T.contains (C, f) = true) (hl : fs.lookup f = some d) : dFld T f g ρ S0 = some (d, S) := by
  unfold dFld
  simp only [hg, insD, hS]
  rw [if_pos hT]
  simp only [hl]
theorem setF_at (hv : v ρ S0 = some (y, S1)) (hg : g ρ S1 = some (.loc n, S)) (hS : S[n]? = some (.ins C fs)) (hT : T.contains (C, f) = true) (hlen : fs.length < 1000) : dSetF T f v g ρ S0 = some (.nx ρ (S.set n (.ins C (putFD f y fs)))) := by
  unfold dSetF
  simp only [hv, hg, insD, hS]
  rw [if_pos ⟨hT, hlen⟩]
theorem meth_at (hg : o ρ S0 = some (.loc n, S)) (hS : S[n]? = some (.ins C fs)) (hl : fs.lookup m = none) (ha : fa ρ S = some (xs, S2)) : dMeth C m F [] o fa ρ S0 = F (.loc n :: xs) S2 := by
  unfold dMeth
  simp only [hg, insD, hS]
  rw [if_pos ⟨trivial, hl⟩]
  simp only [ha, List.append_nil]
end
section
variable {S S0 S1 S2 S3 : Sto} {n : Nat} {ks : List Key} {vs ds : List DV} {x : Str} {y d : DV} {i : Int} {j : Nat} {ρ : Ev} {f g h v o : DE}
theorem setI_dik (hS : S[n]? = some (.dik ks vs)) (hz : ks.length < 16777216) : setI (.loc n) (.str x) y S = some (S.set n (.dik (putKs ks (.inr x)) (putVs ks vs (.inr x) y))) := by
  unfold setI
  simp only [hS, keyD]
  rw [if_pos (by rw [size_eq]; exact hz)]
theorem setI_lst (hS : S[n]? = some (.lst ds)) (hi : ixN ds.length i = some j) : setI (.loc n) (.int i) y S = some (S.set n (.lst (ds.set j y))) := by
  unfold setI
  simp only [hS, hi]
theorem getD_dik (hS : S[n]? = some (.dik ks vs)) : getD S (.loc n) (.str x) = some (lkD ks vs (.inr x)) := by
  unfold getD asK keyD
  simp only [hS]
end
/-! ### dicts in plain Lean -/
def lkG {κ α : Type} [DecidableEq κ] : List κ → List α → κ → Option α
  | k :: ks, d :: ds, j => if k = j then some d else lkG ks ds j
  | _, _, _ => none
def putG {κ α : Type} [DecidableEq κ] (ks : List κ) (ds : List α) (j : κ) (x : α) : List α := if hasK ks j = true then rpG j x ks ds else ds ++ [x]
section
variable {κ α : Type} [DecidableEq κ] {f : α → DV} {j : κ} {v : α}
theorem lkD_map : ∀ {ks : List κ} {vs : List α}, lkD ks (vs.map f) j = (lkG ks vs j).map f
  | [], vs => by
    unfold lkD lkG
    rfl
  | k :: ks, [] => by
    unfold lkG
    rfl
  | k :: ks, v :: vs => by
    rw [List.map_cons]
    unfold lkD lkG
    by_cases q : k = j
    · rw [if_pos q, if_pos q] <;> rfl
    · rw [if_neg q, if_neg q]
      exact lkD_map
theorem rpG_mem {P : α → Prop} (hv : P v) : ∀ {ks : List κ} {vs : List α}, (∀ u ∈ vs, P u) → ∀ u ∈ rpG j v ks vs, P u
  | [], vs, h, u, hu => by
    unfold rpG at hu
    cases hu
  | k :: ks, [], h, u, hu => by
    cases hu
  | k :: ks, w :: vs, h, u, hu => by
    unfold rpG at hu
    rcases List.mem_cons.mp hu with e | e
    · by_cases q : k = j
      · rw [if_pos q] at e
        rw [e]
        exact hv
      · rw [if_neg q] at e
        rw [e]
        exact h w List.mem_cons_self
    · exact rpG_mem hv (fun u hu => h u (List.mem_cons_of_mem _ hu)) u e
theorem putG_mem {P : α → Prop} (hv : P v) {ks : List κ} {vs : List α} (h : ∀ u ∈ vs, P u) : ∀ u ∈ putG ks vs j v, P u := by
  unfold putG
  by_cases q : hasK ks j = true
  · rw [if_pos q]
    exact rpG_mem hv h
  · rw [if_neg q]
    intro u hu
    rcases List.mem_append.mp hu with e | e
    · exact h u e
    · rw [List.mem_singleton.mp e]
      exact hv
theorem putG_len {ks : List κ} {vs : List α} (h : ks.length = vs.length) : (putKs ks j).length = (putG ks vs j v).length := by
  unfold putKs putG
  by_cases q : hasK ks j = true
  · rw [if_pos q, if_pos q, rp_len h]
  · rw [if_neg q, if_neg q, List.length_append, List.length_append, h] <;> rfl
theorem putKs_len {ks : List κ} : (putKs ks j).length ≤ ks.length + 1 := by
  unfold putKs
  by_cases q : hasK ks j = true
  · rw [if_pos q]
    omega
  · rw [if_neg q, List.length_append] <;> simp
theorem putKs_has {ks : List κ} (h : hasK ks j = true) : putKs ks j = ks := by
  unfold putKs
  rw [if_pos h]
theorem putG_has {ks : List κ} {vs : List α} (h : hasK ks j = true) : putG ks vs j v = rpG j v ks vs := by
  unfold putG
  rw [if_pos h]
theorem lkG_mem : ∀ {ks : List κ} {vs : List α} {v : α}, lkG ks vs j = some v → v ∈ vs
  | [], vs, v, h => by
    unfold lkG at h
    cases h
  | k :: ks, [], v, h => by
    unfold lkG at h
    cases h
  | k :: ks, u :: vs, v, h => by
    unfold lkG at h
    by_cases q : k = j
    · rw [if_pos q] at h
      cases h
      exact List.mem_cons_self
    · rw [if_neg q] at h
      exact List.mem_cons_of_mem _ (lkG_mem h)
theorem lkG_has : ∀ {ks : List κ} {vs : List α}, ks.length = vs.length → hasK ks j = true → ∃ v, lkG ks vs j = some v
  | [], vs, _, h => by cases h
  | k :: ks, [], h, _ => by cases h
  | k :: ks, u :: vs, hl, h => by
    unfold lkG
    by_cases q : k = j
    · rw [if_pos q]
      exact ⟨_, rfl⟩
    · rw [if_neg q]
      refine lkG_has (Nat.succ.inj hl) ?_
      unfold hasK at h ⊢
      rw [List.any_cons, decide_eq_false q, Bool.false_or] at h
      exact h
end
/-! ### the plain machine in plain Lean -/
abbrev W40 : Int := 1099511627776
def In40 (z : Int) : Prop := 0 ≤ z ∧ z < 1099511627776
inductive Atm where
  | n (i : Int) | x (s : Str)
def Atm.d : Atm → DV
  | .n i => .int i
  | .x s => .str s
def Atm.Ok : Atm → Prop
  | .n i => In40 i
  | .x _ => True
@[simp] theorem Atm.plain_d {a : Atm} : plain a.d = true := by cases a <;> rfl
inductive PRow where
  | say (a : Atm) | copy (x : Str) (a : Atm) | op (x s : Str) (a b : Atm) | load (x c : Str) | store (c : Str) (a : Atm)
  | take (x s : Str) (a : Atm) | lay (s : Str) (a b : Atm) | hear (x : Str) | ifr (a : Atm) (n : Nat) | go (n : Nat) | endr (a : Atm)
def PRow.d : PRow → DV
  | .say a => .tup [.str "say", a.d]
  | .copy x a => .tup [.str "copy", .str x, a.d]
  | .op x s a b => .tup [.str "op", .str x, .str s, a.d, b.d]
  | .load x c => .tup [.str "load", .str x, .str c]
  | .store c a => .tup [.str "store", .str c, a.d]
  | .take x s a => .tup [.str "take", .str x, .str s, a.d]
  | .lay s a b => .tup [.str "lay", .str s, a.d, b.d]
  | .hear x => .tup [.str "hear", .str x]
  | .ifr a n => .tup [.str "if", a.d, .int n]
  | .go n => .tup [.str "go", .int n]
  | .endr a => .tup [.str "end", a.d]
theorem PRow.plain_d {r : PRow} : plain r.d = true := by cases r <;> simp [PRow.d]
def PRow.led (i : Nat) : PRow → List Nat
  | .endr _ => []
  | .go n => [n]
  | .ifr _ n => [n, i + 1]
  | _ => [i + 1]
def ledD (i : Nat) (r : PRow) : DV := .tup ((r.led i).map fun (n : Nat) => .int n)
def leadsD (rows : List PRow) : List DV := rows.mapIdx ledD
def isSign (s : Str) : Prop := s = "+" ∨ s = "-" ∨ s = "*" ∨ s = "<" ∨ s = "=" ∨ s = "&" ∨ s = "|" ∨ s = "^"
def valS (s : Str) (a b : Int) : Int := if s = "+" then (a + b) % W40 else if s = "-" then (a - b) % W40 else if s = "*" then a * b % W40 else
  if s = "<" then (if a < b then 1 else 0) else if s = "=" then (if a = b then 1 else 0) else if s = "&" then Builtin.bitAnd a b else if s = "|" then Builtin.bitOr a b else Builtin.bitXor a b
theorem bits40 {a b : Int} (ha : In40 a) (hb : In40 b) : In40 (Builtin.bitAnd a b) ∧ In40 (Builtin.bitOr a b) ∧ In40 (Builtin.bitXor a b) := by
  obtain ⟨a0, a1⟩ := ha
  obtain ⟨b0, b1⟩ := hb
  have h1 : a.toNat < 2 ^ 40 := by omega
  have h2 : b.toNat < 2 ^ 40 := by omega
  rw [bitAnd_pp a0 b0, Bits.bitOr_pp a0 b0, Bits.bitXor_pp a0 b0]
  have k1 := Nat.and_lt_two_pow a.toNat h2
  have k2 := Nat.or_lt_two_pow h1 h2
  have k3 := Nat.xor_lt_two_pow h1 h2
  unfold In40
  refine ⟨⟨?_, ?_⟩, ⟨?_, ?_⟩, ⟨?_, ?_⟩⟩ <;> omega
theorem valS_40 {s : Str} {a b : Int} (ha : In40 a) (hb : In40 b) : In40 (valS s a b) := by
  obtain ⟨k1, k2, k3⟩ := bits40 ha hb
  have m : ∀ z : Int, In40 (z % W40) := fun z => ⟨Int.emod_nonneg _ (by decide), Int.emod_lt_of_pos _ (by decide)⟩
  unfold valS
  repeat' split
  all_goals first
    | exact m _
    | exact k1
    | exact k2
    | exact k3
    | exact ⟨by decide, by decide⟩
structure PSt where
  at_ : Nat
  done : Nat
  hears : Nat
  res : Option Int
  hk : List Key
  hv : List Int
  ck : List Key
  cv : List Int
  sk : List Key
  sv : List (List Int)
  gone : List Int
def optI : Option Int → DV
  | none => .non
  | some v => .int v
def PSt.worth (st : PSt) : Atm → Int
  | .n i => i
  | .x s => (lkG st.hk st.hv (.inr s)).getD 0
def PSt.out (st : PSt) (x : Str) (v : Int) : PSt := { st with hk := putKs st.hk (.inr x), hv := putG st.hk st.hv (.inr x) v }
def PSt.cell (st : PSt) (c : Str) : Int := (lkG st.ck st.cv (.inr c)).getD 0
def PSt.shelf (st : PSt) (s : Str) : List Int := (lkG st.sk st.sv (.inr s)).getD [0]
def placeN (l : List Int) (v : Int) : Nat := (v % (l.length : Int)).toNat
/-- a row done, but for where it leads -/
def PSt.does (coming : List Int) (st : PSt) : PRow → PSt
  | .say a => { st with gone := st.gone ++ [st.worth a] }
  | .copy x a => st.out x (st.worth a)
  | .op x s a b => st.out x (valS s (st.worth a) (st.worth b))
  | .load x c => st.out x (st.cell c)
  | .store c a => { st with cv := rpG (.inr c) (st.worth a) st.ck st.cv }
  | .take x s a => st.out x ((st.shelf s).getD (placeN (st.shelf s) (st.worth a)) 0)
  | .lay s a b => { st with sv := rpG (.inr s) ((st.shelf s).set (placeN (st.shelf s) (st.worth a)) (st.worth b)) st.sk st.sv }
  | .hear x => { st.out x (coming.getD st.hears 0) with hears := st.hears + 1 }
  | .ifr _ _ => st
  | .go _ => st
  | .endr a => { st with res := some (st.worth a) }
def PSt.next (st : PSt) : PRow → Nat
  | .ifr a n => if st.worth a = 0 then st.at_ + 1 else n
  | .go n => n
  | .endr _ => st.at_
  | _ => st.at_ + 1
def PSt.step (rows : List PRow) (coming : List Int) (st : PSt) : PSt := match st.res with
  | some _ => st
  | none => match rows[st.at_]? with
    | none => st
    | some r => { st.does coming r with done := st.done + 1, at_ := st.next r }
def PRow.Ok (ck sk : List Key) : PRow → Prop
  | .say a => a.Ok
  | .copy _ a => a.Ok
  | .op _ s a b => isSign s ∧ a.Ok ∧ b.Ok
  | .load _ c => hasK ck (.inr c) = true
  | .store c a => hasK ck (.inr c) = true ∧ a.Ok
  | .take _ s a => hasK sk (.inr s) = true ∧ a.Ok
  | .lay s a b => hasK sk (.inr s) = true ∧ a.Ok ∧ b.Ok
  | .hear _ => True
  | .ifr a _ => a.Ok
  | .go _ => True
  | .endr a => a.Ok
structure PSt.Ok (st : PSt) : Prop where
  hl : st.hk.length = st.hv.length
  hr : ∀ v ∈ st.hv, In40 v
  cl : st.ck.length = st.cv.length
  cr : ∀ v ∈ st.cv, In40 v
  sl : st.sk.length = st.sv.length
  sr : ∀ l ∈ st.sv, l ≠ [] ∧ l.length ≤ 1000 ∧ ∀ v ∈ l, In40 v
  hd : st.hk.length ≤ st.done
  gd : st.gone.length ≤ st.done
theorem in0 : In40 0 := ⟨by decide, by decide⟩
theorem PSt.Ok.worth {st : PSt} (O : st.Ok) {a : Atm} (h : a.Ok) : In40 (st.worth a) := by
  cases a with
  | n i => exact h
  | x s =>
    show In40 ((lkG st.hk st.hv (.inr s)).getD 0)
    cases e : lkG st.hk st.hv (.inr s) with
    | none => exact in0
    | some v => exact O.hr v (lkG_mem e)
theorem PSt.Ok.shelf {st : PSt} (O : st.Ok) {s : Str} (h : hasK st.sk (.inr s) = true) : lkG st.sk st.sv (.inr s) = some (st.shelf s) ∧ st.shelf s ≠ [] ∧ (st.shelf s).length ≤ 1000 ∧ ∀ v ∈ st.shelf s, In40 v := by
  obtain ⟨l, e⟩ := lkG_has O.sl h
  have e2 : st.shelf s = l := by
    unfold PSt.shelf
    rw [e]
    rfl
  rw [e2]
  exact ⟨e, O.sr l (lkG_mem e)⟩
theorem PSt.Ok.cell {st : PSt} (O : st.Ok) {c : Str} (h : hasK st.ck (.inr c) = true) : lkG st.ck st.cv (.inr c) = some (st.cell c) ∧ In40 (st.cell c) := by
  obtain ⟨l, e⟩ := lkG_has O.cl h
  have e2 : st.cell c = l := by
    unfold PSt.cell
    rw [e]
    rfl
  rw [e2]
  exact ⟨e, O.cr l (lkG_mem e)⟩
theorem PSt.Ok.out {st : PSt} (O : st.Ok) {x : Str} {v : Int} (hv : In40 v) {d : Nat} (hd : st.done + 1 ≤ d) {h : Nat} {a : Nat} {r : Option Int} : PSt.Ok { st.out x v with done := d, hears := h, at_ := a, res := r } :=
  ⟨putG_len O.hl, putG_mem hv O.hr, O.cl, O.cr, O.sl, O.sr, by
    have h1 : (putKs st.hk (Sum.inr x : Key)).length ≤ st.hk.length + 1 := putKs_len
    have h2 := O.hd
    show (putKs st.hk (Sum.inr x : Key)).length ≤ d
    omega, by
    have h2 := O.gd
    show st.gone.length ≤ d
    omega⟩
theorem placeN_lt {l : List Int} (h : l ≠ []) (v : Int) : placeN l v < l.length := by
  have h1 : 0 < l.length := List.length_pos_iff.mpr h
  have h2 := Int.emod_lt_of_pos v (b := (l.length : Int)) (by omega)
  have h3 := Int.emod_nonneg v (b := (l.length : Int)) (by omega)
  unfold placeN
  omega
theorem PSt.Ok.step {st : PSt} (O : st.Ok) {rows : List PRow} {coming : List Int} (hc : ∀ v ∈ coming, In40 v) (hr : ∀ r ∈ rows, r.Ok st.ck st.sk) : (st.step rows coming).Ok ∧ (st.step rows coming).ck = st.ck ∧ (st.step rows coming).sk = st.sk := by
  unfold PSt.step
  cases e : st.res with
  | some v => exact ⟨O, rfl, rfl⟩
  | none =>
    cases e2 : rows[st.at_]? with
    | none => exact ⟨O, rfl, rfl⟩
    | some r =>
      have hok := hr r (List.mem_of_getElem? e2)
      have hd := O.hd
      have gd := O.gd
      cases r with
      | say a => exact ⟨⟨O.hl, O.hr, O.cl, O.cr, O.sl, O.sr, Nat.le_succ_of_le hd, by simp [PSt.does]; omega⟩, rfl, rfl⟩
      | copy x a => exact ⟨O.out (O.worth hok) (Nat.le_refl _), rfl, rfl⟩
      | op x s a b => exact ⟨O.out (valS_40 (O.worth hok.2.1) (O.worth hok.2.2)) (Nat.le_refl _), rfl, rfl⟩
      | load x c => exact ⟨O.out (O.cell hok).2 (Nat.le_refl _), rfl, rfl⟩
      | store c a => exact ⟨⟨O.hl, O.hr, (O.cl.trans ((rp_len O.cl).trans O.cl).symm), rpG_mem (O.worth hok.2) O.cr, O.sl, O.sr, Nat.le_succ_of_le hd, Nat.le_succ_of_le gd⟩, rfl, rfl⟩
      | take x s a =>
        obtain ⟨_, s1, _, s2⟩ := O.shelf hok.1
        refine ⟨O.out ?_ (Nat.le_refl _), rfl, rfl⟩
        have hlt := placeN_lt s1 (st.worth a)
        rw [List.getD_eq_getElem?_getD, List.getElem?_eq_getElem hlt]
        exact s2 _ (List.getElem_mem hlt)
      | lay s a b =>
        obtain ⟨_, s1, s3, s2⟩ := O.shelf hok.1
        refine ⟨⟨O.hl, O.hr, O.cl, O.cr, (O.sl.trans ((rp_len O.sl).trans O.sl).symm), rpG_mem (P := fun l => l ≠ [] ∧ l.length ≤ 1000 ∧ ∀ v ∈ l, In40 v) ⟨?_, by rw [List.length_set]; exact s3, fun v hv => ?_⟩ O.sr, Nat.le_succ_of_le hd, Nat.le_succ_of_le gd⟩, rfl, rfl⟩
        · exact fun q => s1 (by simpa using q)
        · rcases List.mem_or_eq_of_mem_set hv with h | h
          · exact s2 v h
          · rw [h]
            exact O.worth hok.2.2
      | hear x =>
        refine ⟨O.out ?_ (Nat.le_refl _), rfl, rfl⟩
        rw [List.getD_eq_getElem?_getD]
        cases e3 : coming[st.hears]? with
        | none => exact in0
        | some v => exact hc v (List.mem_of_getElem? e3)
      | ifr a n => exact ⟨⟨O.hl, O.hr, O.cl, O.cr, O.sl, O.sr, Nat.le_succ_of_le hd, Nat.le_succ_of_le gd⟩, rfl, rfl⟩
      | go n => exact ⟨⟨O.hl, O.hr, O.cl, O.cr, O.sl, O.sr, Nat.le_succ_of_le hd, Nat.le_succ_of_le gd⟩, rfl, rfl⟩
      | endr a => exact ⟨⟨O.hl, O.hr, O.cl, O.cr, O.sl, O.sr, Nat.le_succ_of_le hd, Nat.le_succ_of_le gd⟩, rfl, rfl⟩
end Dn

namespace Dn
open PySem PySem.Spec PyProof.Rows L2
/-! ### tuples' places -/
section
variable {a b c d e x : DV} {S : Sto} {s t u y : Str}
@[simp] theorem ix_t1_0 : pIx (.tup [a]) (.int 0) S = some (a, S) := (rfl)
@[simp] theorem ix_t2_0 : pIx (.tup [a, b]) (.int 0) S = some (a, S) := (rfl)
@[simp] theorem ix_t2_1 : pIx (.tup [a, b]) (.int 1) S = some (b, S) := (rfl)
@[simp] theorem ix_t3_0 : pIx (.tup [a, b, c]) (.int 0) S = some (a, S) := (rfl)
@[simp] theorem ix_t3_1 : pIx (.tup [a, b, c]) (.int 1) S = some (b, S) := (rfl)
@[simp] theorem ix_t3_2 : pIx (.tup [a, b, c]) (.int 2) S = some (c, S) := (rfl)
@[simp] theorem ix_t4_0 : pIx (.tup [a, b, c, d]) (.int 0) S = some (a, S) := (rfl)
@[simp] theorem ix_t4_1 : pIx (.tup [a, b, c, d]) (.int 1) S = some (b, S) := (rfl)
@[simp] theorem ix_t4_2 : pIx (.tup [a, b, c, d]) (.int 2) S = some (c, S) := (rfl)
@[simp] theorem ix_t4_3 : pIx (.tup [a, b, c, d]) (.int 3) S = some (d, S) := (rfl)
@[simp] theorem ix_t5_0 : pIx (.tup [a, b, c, d, e]) (.int 0) S = some (a, S) := (rfl)
@[simp] theorem ix_t5_1 : pIx (.tup [a, b, c, d, e]) (.int 1) S = some (b, S) := (rfl)
@[simp] theorem ix_t5_2 : pIx (.tup [a, b, c, d, e]) (.int 2) S = some (c, S) := (rfl)
@[simp] theorem ix_t5_3 : pIx (.tup [a, b, c, d, e]) (.int 3) S = some (d, S) := (rfl)
@[simp] theorem ix_t5_4 : pIx (.tup [a, b, c, d, e]) (.int 4) S = some (e, S) := (rfl)
theorem eqF_str : eqF (.str s) (.str y) = decide (s = y) := by
  show (s == y) = _
  by_cases q : s = y
  · rw [q]
    simp
  · rw [decide_eq_false q]
    simpa using q
@[simp] theorem in_t3 : pIn false (.str y) (.tup [.str s, .str t, .str u]) S = some (.bl (decide (s = y) || (decide (t = y) || decide (u = y))), S) := by
  unfold pIn
  simp [inD, eqF_str, flD]
end
/-! ### the plain machine in the store -/
structure PLoc where
  o : Nat
  l : Nat
  c : Nat
  h : Nat
  ce : Nat
  p : Nat
  g : Nat
  ss : List Nat
def PLoc.fp (L : PLoc) : List Nat := L.o :: L.l :: L.c :: L.h :: L.ce :: L.p :: L.g :: L.ss
def plF (rows : List PRow) (L : PLoc) (st : PSt) : List (Str × DV) :=
  [("rows", .tup (rows.map PRow.d)), ("leads", .loc L.l), ("coming", .loc L.c), ("at", .int st.at_), ("held", .loc L.h), ("cells", .loc L.ce), ("places", .loc L.p), ("gone", .loc L.g), ("hears", .int st.hears), ("done", .int st.done), ("result", optI st.res)]
structure PlAt (S : Sto) (L : PLoc) (rows : List PRow) (coming : List Int) (st : PSt) : Prop where
  o : S[L.o]? = some (.ins "Plain" (plF rows L st))
  l : S[L.l]? = some (.lst (leadsD rows))
  c : S[L.c]? = some (.lst (coming.map .int))
  h : S[L.h]? = some (.dik st.hk (st.hv.map .int))
  ce : S[L.ce]? = some (.dik st.ck (st.cv.map .int))
  p : S[L.p]? = some (.dik st.sk (L.ss.map .loc))
  g : S[L.g]? = some (.lst (st.gone.map .int))
  s : ∀ (i : Nat) (l : List Int), st.sv[i]? = some l → ∃ n : Nat, L.ss[i]? = some n ∧ S[n]? = some (Cell.lst (l.map DV.int))
  sl : L.ss.length = st.sv.length
  sk : st.sk.Nodup
  skl : st.sk.length = st.sv.length
  nd : L.fp.Nodup
/-- what else is in the store stays -/
def Fr (L : PLoc) (S S1 : Sto) : Prop := S1.length = S.length ∧ ∀ i, i ∉ L.fp → S1[i]? = S[i]?
theorem Fr.refl {L : PLoc} {S : Sto} : Fr L S S := ⟨rfl, fun _ _ => rfl⟩
theorem Fr.trans {L : PLoc} {S S1 S2 : Sto} (a : Fr L S S1) (b : Fr L S1 S2) : Fr L S S2 := ⟨b.1.trans a.1, fun i h => (b.2 i h).trans (a.2 i h)⟩
theorem Fr.set {L : PLoc} {S : Sto} {n : Nat} {c : Cell} (h : n ∈ L.fp) : Fr L S (S.set n c) := ⟨List.length_set, fun i hi => List.getElem?_set_ne fun q => hi (by rw [← q]; exact h)⟩
section
variable {S S' : Sto} {L : PLoc} {rows : List PRow} {coming : List Int} {st : PSt}
theorem PlAt.ext (A : PlAt S L rows coming st) (e : ∀ i, i ∈ L.fp → S'[i]? = S[i]?) : PlAt S' L rows coming st := by
  have m : ∀ n ∈ L.ss, n ∈ L.fp := fun n h => by simp [PLoc.fp, h]
  refine ⟨?_, ?_, ?_, ?_, ?_, ?_, ?_, fun i l hl => ?_, A.sl, A.sk, A.skl, A.nd⟩
  · rw [e _ (by simp [PLoc.fp])]; exact A.o
  · rw [e _ (by simp [PLoc.fp])]; exact A.l
  · rw [e _ (by simp [PLoc.fp])]; exact A.c
  · rw [e _ (by simp [PLoc.fp])]; exact A.h
  · rw [e _ (by simp [PLoc.fp])]; exact A.ce
  · rw [e _ (by simp [PLoc.fp])]; exact A.p
  · rw [e _ (by simp [PLoc.fp])]; exact A.g
  · obtain ⟨n, h1, h2⟩ := A.s i l hl
    exact ⟨n, h1, by rw [e _ (m n (List.mem_of_getElem? h1))]; exact h2⟩
theorem rpG_get {κ α : Type} [DecidableEq κ] {j : κ} {v : α} : ∀ {ks : List κ} {vs : List α} {i : Nat}, (rpG j v ks vs : List α)[i]? = match ks[i]?, vs[i]? with
    | some k, some u => some (if k = j then v else u)
    | _, _ => none
  | [], vs, i => by
    unfold rpG
    simp
  | k :: ks, [], i => by
    unfold rpG
    cases h : (k :: ks)[i]? <;> simp
  | k :: ks, u :: vs, 0 => by
    unfold rpG
    rfl
  | k :: ks, u :: vs, i + 1 => by
    unfold rpG
    rw [List.getElem?_cons_succ, List.getElem?_cons_succ, List.getElem?_cons_succ, rpG_get]
theorem lkG_ix {κ α : Type} [DecidableEq κ] {j : κ} {v : α} : ∀ {ks : List κ} {vs : List α}, lkG ks vs j = some v → ∃ i : Nat, ks[i]? = some j ∧ vs[i]? = some v ∧ ∀ {β : Type} {us : List β} {u : β}, us[i]? = some u → lkG ks us j = some u
  | [], vs, h => by
    unfold lkG at h
    cases h
  | k :: ks, [], h => by
    unfold lkG at h
    cases h
  | k :: ks, w :: vs, h => by
    unfold lkG at h
    by_cases q : k = j
    · rw [if_pos q] at h
      refine ⟨0, by rw [← q] <;> rfl, h, fun {β us u} hu => ?_⟩
      cases us with
      | nil => cases hu
      | cons x us =>
        unfold lkG
        rw [if_pos q]
        exact hu
    · rw [if_neg q] at h
      obtain ⟨i, h1, h2, h3⟩ := lkG_ix h
      refine ⟨i + 1, h1, h2, fun {β us u} hu => ?_⟩
      cases us with
      | nil => cases hu
      | cons x us =>
        unfold lkG
        rw [if_neg q]
        exact h3 hu
theorem nodup_ix {α : Type} {a : α} : ∀ {l : List α} {i j : Nat}, l.Nodup → l[i]? = some a → l[j]? = some a → i = j
  | [], i, j, _, h, _ => by simp at h
  | x :: l, 0, 0, _, _, _ => rfl
  | x :: l, 0, j + 1, n, h, h2 => by
    rw [List.nodup_cons] at n
    have e : x = a := by simpa using h
    exact absurd (List.mem_of_getElem? (by simpa using h2)) (by rw [← e]; exact n.1)
  | x :: l, i + 1, 0, n, h, h2 => by
    rw [List.nodup_cons] at n
    have e : x = a := by simpa using h2
    exact absurd (List.mem_of_getElem? (by simpa using h)) (by rw [← e]; exact n.1)
  | x :: l, i + 1, j + 1, n, h, h2 => by
    rw [List.nodup_cons] at n
    have h' : l[i]? = some a := by simpa using h
    have h2' : l[j]? = some a := by simpa using h2
    exact congrArg (· + 1) (nodup_ix n.2 h' h2')
/-- where a shelf's places are -/
theorem PlAt.shelf (A : PlAt S L rows coming st) {s : Str} {l : List Int} (h : lkG st.sk st.sv (.inr s) = some l) : ∃ n : Nat, n ∈ L.fp ∧ lkD st.sk (L.ss.map .loc) (.inr s) = some (.loc n) ∧ S[n]? = some (Cell.lst (l.map DV.int)) ∧
    ∀ l', PlAt (S.set n (.lst (l'.map .int))) L rows coming { st with sv := rpG (.inr s) l' st.sk st.sv } := by
  obtain ⟨i, h1, h2, h3⟩ := lkG_ix h
  obtain ⟨n, h4, h5⟩ := A.s i l h2
  have hm : n ∈ L.ss := List.mem_of_getElem? h4
  have nd := A.nd
  simp only [PLoc.fp, List.nodup_cons, List.mem_cons, not_or] at nd
  obtain ⟨⟨n1, n2, n3, n4, n5, n6, n7⟩, ⟨l1, l2, l3, l4, l5, l6⟩, ⟨c1, c2, c3, c4, c5⟩, ⟨k1, k2, k3, k4⟩, ⟨e1, e2, e3⟩, ⟨p1, p2⟩, g1, ns⟩ := nd
  refine ⟨n, by simp [PLoc.fp, hm], by rw [lkD_map, h3 h4] <;> rfl, h5, fun l' => ⟨?_, ?_, ?_, ?_, ?_, ?_, ?_, fun i' u hu => ?_, ?_, A.sk, ?_, A.nd⟩⟩
  · rw [List.getElem?_set_ne fun q => n7 (by rw [← q]; exact hm)]; exact A.o
  · rw [List.getElem?_set_ne fun q => l6 (by rw [← q]; exact hm)]; exact A.l
  · rw [List.getElem?_set_ne fun q => c5 (by rw [← q]; exact hm)]; exact A.c
  · rw [List.getElem?_set_ne fun q => k4 (by rw [← q]; exact hm)]; exact A.h
  · rw [List.getElem?_set_ne fun q => e3 (by rw [← q]; exact hm)]; exact A.ce
  · rw [List.getElem?_set_ne fun q => p2 (by rw [← q]; exact hm)]; exact A.p
  · rw [List.getElem?_set_ne fun q => g1 (by rw [← q]; exact hm)]; exact A.g
  · have hu' : (rpG (Sum.inr s : Key) l' st.sk st.sv)[i']? = some u := hu
    rw [rpG_get] at hu'
    cases e1 : st.sk[i']? with
    | none =>
      rw [e1] at hu'
      cases hu'
    | some k =>
      cases e2 : st.sv[i']? with
      | none =>
        rw [e1, e2] at hu'
        cases hu'
      | some w =>
        rw [e1, e2] at hu'
        cases hu'
        obtain ⟨m, m1, m2⟩ := A.s i' w e2
        by_cases q : k = Sum.inr s
        · have ii : i' = i := by
            exact nodup_ix A.sk (by rw [e1, q]) h1
          subst ii
          rw [if_pos q]
          exact ⟨n, h4, List.getElem?_set_self (get_lt h5)⟩
        · rw [if_neg q]
          refine ⟨m, m1, ?_⟩
          rw [List.getElem?_set_ne]
          · exact m2
          · intro qq
            subst qq
            have : i' = i := nodup_ix ns m1 h4
            subst this
            rw [e1] at h1
            exact q (Option.some.inj h1)
  · show L.ss.length = (rpG (Sum.inr s : Key) l' st.sk st.sv).length
    rw [rp_len A.skl, A.sl, A.skl]
  · show st.sk.length = (rpG (Sum.inr s : Key) l' st.sk st.sv).length
    rw [rp_len A.skl]
end
end Dn

/-! loops over the keys of a live dict: it is locked while it is walked -/
namespace Dn
open PySem PySem.Spec PyProof.Rows L2
def notLok : Cell → Bool
  | .lok _ _ => false
  | .lokt _ _ => false
  | _ => true
def unlockS (n : Nat) (S : Sto) : Option Sto := match S[n]? with
  | some (.lok ks ds) => if (S.set n .gone).all notLok = true then some (S.set n (.dik ks ds)) else none
  | some (.lokt ks ds) => if (S.set n .gone).all notLok = true then some (S.set n (.dit ks ds)) else none
  | _ => none
def unlockO (n : Nat) : Out → Option Out
  | .nx ρ S => (match unlockS n S with | some S' => some (.nx ρ S') | none => none)
  | .rt d S => (match unlockS n S with | some S' => some (.rt d S') | none => none)
  | .bk ρ S => (match unlockS n S with | some S' => some (.bk ρ S') | none => none)
  | .ct ρ S => (match unlockS n S with | some S' => some (.ct ρ S') | none => none)
def iKeyL (f : DE) : DI := fun ρ S => match f ρ S with
  | some (.loc n, S1) => (match S1[n]? with
    | some (.lok ks _) => some (ks.map kdv, S1)
    | some (.lokt ks _) => some (ks.map fun k => .tup (k.map kdv), S1)
    | _ => none)
  | _ => none
theorem walks_keys {F : Fm} {a : Addr} {o : Obj} {ks : List Key} {xs : List V} (h : F.P a = some (.frz o (.dK (ks.zip xs)))) (hl : ks.length = xs.length) : Walks (Itk a o (ks.zip xs)) F (ks.map kdv) := fun i F' S H w pf R => by
  have e : H a = some (.frz o (.dK (ks.zip xs))) := R.p _ _ (pf _ _ _ h)
  have hz : (ks.zip xs).length = ks.length := by rw [List.length_zip, ← hl, Nat.min_self]
  refine ⟨fun hi => ⟨e, by rw [hz]; rw [List.length_map] at hi; omega⟩, fun d hd => ?_⟩
  have hlt := (List.getElem?_eq_some_iff.mp hd).1
  rw [List.length_map] at hlt
  refine ⟨⟨e, by rw [hz]; exact hlt⟩, fun x H' y => ?_⟩
  obtain ⟨rfl, k, v, h1, rfl⟩ := y
  refine ⟨F', .refl F', R, ?_⟩
  rw [List.getElem?_map] at hd
  have h2 : ks[i]? = some k := by
    have := congrArg (Option.map Prod.fst) h1
    rw [← List.getElem?_map, List.map_fst_zip (by omega)] at this
    exact this
  rw [h2] at hd
  cases hd
  cases k with
  | inl i => exact (rfl : kV (.inl i) = .int i)
  | inr s => exact (rfl : kV (.inr s) = .str s)
theorem walks_keysT {F : Fm} {a : Addr} {o : Obj} {ks : List (List Key)} {xs : List V} (h : F.P a = some (.frz o (.dT (ks.zip xs)))) (hl : ks.length = xs.length) : Walks (Itkt a o (ks.zip xs)) F (ks.map fun k => .tup (k.map kdv)) := fun i F' S H w pf R => by
  have e : H a = some (.frz o (.dT (ks.zip xs))) := R.p _ _ (pf _ _ _ h)
  have hz : (ks.zip xs).length = ks.length := by rw [List.length_zip, ← hl, Nat.min_self]
  refine ⟨fun hi => ⟨e, by rw [hz]; rw [List.length_map] at hi; omega⟩, fun d hd => ?_⟩
  have hlt := (List.getElem?_eq_some_iff.mp hd).1
  rw [List.length_map] at hlt
  refine ⟨⟨e, by rw [hz]; exact hlt⟩, fun x H' y => ?_⟩
  obtain ⟨rfl, k, v, q, h1, rfl, h3⟩ := y
  refine ⟨F', .refl F', R, ?_⟩
  rw [List.getElem?_map] at hd
  have h2 : ks[i]? = some k := by
    have := congrArg (Option.map Prod.fst) h1
    rw [← List.getElem?_map, List.map_fst_zip (by omega)] at this
    exact this
  rw [h2] at hd
  cases hd
  exact ⟨_, _, rfl, R.tup _ _ h3, kdv_rel k⟩
section
variable {X : Cx} {e : Expr} {f : DE} {st : Stmt}
theorem id_keyL {tg : Expr} (h : ED X e f) : ID X tg e (iKeyL f) :=
  .of (pi_keys h.pe) fun F S H ρ σ ds S' Q hk R rr hf hq => by
    unfold iKeyL at hf
    split at hf
    · rename_i n S1 h1
      split at hf
      · rename_i ks ds0 hc
        cases hf
        refine rdE.go hk R rr h1 fun F1 H1 v le hk1 R1 r1 rv => ?_
        obtain ⟨a, ha, rfl⟩ := rv
        obtain ⟨⟨o, xs, hz, eP, rl⟩, _⟩ := R1.cell n _ a hc ha
        exact ⟨a, o, rfl, .inl ⟨_, R1.p _ _ eP, hq _ F1 H1 le R1 (walks_keys eP (hz.trans rl.length))⟩⟩
      · rename_i ks ds0 hc
        cases hf
        refine rdE.go hk R rr h1 fun F1 H1 v le hk1 R1 r1 rv => ?_
        obtain ⟨a, ha, rfl⟩ := rv
        obtain ⟨⟨o, xs, hz, eP, rl⟩, _⟩ := R1.cell n _ a hc ha
        exact ⟨a, o, rfl, .inr ⟨_, R1.p _ _ eP, hq _ F1 H1 le R1 (walks_keysT eP (hz.trans rl.length))⟩⟩
      · cases hf
    · cases hf
/-- a dict's cell is locked -/
def lockC : Cell → Option Cell
  | .dik ks ds => some (.lok ks ds)
  | .dit ks ds => some (.lokt ks ds)
  | _ => none
def HoC (F : Fm) : Cell → HO → Prop
  | .dik ks ds, u => ∃ xs, ks.length = ds.length ∧ u = .dK (ks.zip xs) ∧ RelL F ds xs
  | .dit ks ds, u => ∃ xs, ks.length = ds.length ∧ u = .dT (ks.zip xs) ∧ RelL F ds xs
  | _, _ => False
theorem Rep.atL {F : Fm} {S : Sto} {H : Hp} (R : Rep F S H) {n : Nat} {c c' : Cell} (hl : lockC c = some c') (h : S[n]? = some c) : ∃ a u, F.lm[n]? = some a ∧ H a = some u ∧ HoC F c u ∧ F.G a = none ∧ F.B a = none ∧ F.P a = none ∧ Mut (some u) ∧ ∀ xs, u ≠ .tup xs := by
  obtain ⟨a, ha, hcell, hfree⟩ := R.at h
  cases c with
  | dik ks ds =>
    obtain ⟨xs, hz, e, rl⟩ := hcell
    obtain ⟨ga, ba, pa⟩ := hfree rfl
    exact ⟨a, _, ha, e, ⟨xs, hz, rfl, rl⟩, ga, ba, pa, trivial, fun _ q => nomatch q⟩
  | dit ks ds =>
    obtain ⟨xs, hz, e, rl⟩ := hcell
    obtain ⟨ga, ba, pa⟩ := hfree rfl
    exact ⟨a, _, ha, e, ⟨xs, hz, rfl, rl⟩, ga, ba, pa, trivial, fun _ q => nomatch q⟩
  | _ => cases hl
theorem Rep.lock {F : Fm} {S : Sto} {H : Hp} (R : Rep F S H) {n : Nat} {c c' : Cell} (hl : lockC c = some c') {a : Addr} (h : S[n]? = some c) (ha : F.lm[n]? = some a) {u : HO} (hu : H a = some u) (od : Obj) (hd : HoC F c u) :
    Rep { F with P := upd F.P a (.frz od u) } (S.set n c') (upd H a (.frz od u)) := by
  have lv : c.live = true := by cases c <;> first | rfl | cases hl
  have dd : c'.live = false := by cases c <;> first | (cases hl; rfl) | cases hl
  obtain ⟨k1, k2⟩ := R.cell n _ a h ha
  obtain ⟨ga, ba, pa⟩ := k2 lv
  have hlt := (List.getElem?_eq_some_iff.mp h).1
  have wk : Wk F { F with P := upd F.P a (.frz od u) } := ⟨rfl, Same.refl _, Same.refl _, List.prefix_refl _⟩
  have pf : PF F { F with P := upd F.P a (.frz od u) } := fun b o w e => by
    show upd F.P a (.frz od u) b = _
    rw [upd_ne fun q => by rw [q, pa] at e; cases e]
    exact e
  have pl : ∀ b o, F.P b = some o → upd F.P a (.frz od u) b = some o := fun b o e => by
    rw [upd_ne fun q => by rw [q, pa] at e; cases e]
    exact e
  refine ⟨fun b o e => ?_, fun b o e => ?_, fun b o e => ?_, fun b xs e => ?_, by rw [List.length_set]; exact R.len, fun m cm b hm hb => ?_, fun m1 m2 c1 c2 b h1 h2 l1 l2 e1 e2 => ?_⟩
  · rw [upd_ne fun q => by rw [q, ga] at e; cases e]
    exact R.g _ _ e
  · rw [upd_ne fun q => by rw [q, ba] at e; cases e]
    exact R.b _ _ e
  · have e' : upd F.P a (.frz od u) b = some o := e
    by_cases q : b = a
    · rw [q, upd_same] at e' ⊢
      exact e'
    · rw [upd_ne q] at e' ⊢
      exact R.p _ _ e'
  · rw [upd_ne fun q => by rw [q, upd_same] at e; cases e] at e
    exact R.tup _ _ e
  · by_cases q : m = n
    · subst q
      rw [List.getElem?_set_self hlt] at hm
      cases hm
      have hb' : F.lm[m]? = some b := hb
      rw [ha] at hb'
      cases hb'
      refine ⟨?_, fun q => by rw [dd] at q; cases q⟩
      cases c with
      | dik ks ds =>
        cases hl
        obtain ⟨xs, hz, rfl, rl⟩ := hd
        exact ⟨od, xs, hz, upd_same, RelL.wk wk _ _ rl⟩
      | dit ks ds =>
        cases hl
        obtain ⟨xs, hz, rfl, rl⟩ := hd
        exact ⟨od, xs, hz, upd_same, RelL.wk wk _ _ rl⟩
      | _ => cases hl
    · rw [List.getElem?_set_ne (fun z => q z.symm)] at hm
      obtain ⟨j1, j2⟩ := R.cell m cm b hm hb
      have ne : cm.live = true → b ≠ a := fun l z => q (R.inj m n _ _ a hm h l lv (by rw [← z]; exact hb) ha)
      exact ⟨j1.wk wk pf fun l => upd_ne (ne l), fun l => ⟨(j2 l).1, (j2 l).2.1, by
        show upd F.P a (.frz od u) b = none
        rw [upd_ne (ne l)]
        exact (j2 l).2.2⟩⟩
  · have old : ∀ {m : Nat} {c : Cell}, (S.set n c')[m]? = some c → c.live = true → S[m]? = some c := fun {m c} hm l => by
      by_cases q : m = n
      · subst q
        rw [List.getElem?_set_self hlt] at hm
        cases hm
        rw [dd] at l
        cases l
      · rw [List.getElem?_set_ne (fun z => q z.symm)] at hm
        exact hm
    exact R.inj m1 m2 c1 c2 b (old h1 l1) (old h2 l2) l1 l2 e1 e2
/-- .. and free again -/
theorem Rep.unlock0 {F F' : Fm} {S' : Sto} {H' : Hp} {a : Addr} {od : Obj} {u : HO} {n : Nat} (hB : F.B a = none) (hG : F.G a = none) (hP : F.P a = none) (hut : ∀ xs, u ≠ .tup xs) (le : Le { F with P := upd F.P a (.frz od u) } F') (R : Rep F' S' H') (ha : F.lm[n]? = some a)
    {cl c0 : Cell} (hc : S'[n]? = some cl) (hall : (S'.set n .gone).all notLok = true) (lv : c0.live = true) (hok : CellOk { F' with P := F.P } (upd H' a u) a c0) : H' a = some (.frz od u) ∧ Rep { F' with P := F.P } (S'.set n c0) (upd H' a u) ∧ Le F { F' with P := F.P } := by
  have pa : F'.P a = some (.frz od u) := by rw [le.p]; exact upd_same
  have h0 : H' a = some (.frz od u) := R.p _ _ pa
  have ga : F'.G a = none := by
    cases e : F'.G a with
    | none => rfl
    | some o =>
      rcases le.n a o e with q | q
      · have q' : F.G a = some o := q
        rw [hG] at q'
        cases q'
      · have q' : upd F.P a (.frz od u) a = none := q.2
        rw [upd_same] at q'
        cases q'
  have bb : F'.B = F.B := le.b
  have ha' : F'.lm[n]? = some a := prefix_get le.m ha
  have pq : ∀ b, b ≠ a → F'.P b = F.P b := fun b q => by
    rw [le.p]
    exact upd_ne q
  have hlt := (List.getElem?_eq_some_iff.mp hc).1
  have wk : Wk F' { F' with P := F.P } := ⟨rfl, Same.refl _, Same.refl _, List.prefix_refl _⟩
  have ne : ∀ {m : Nat} {c : Cell} {b : Addr}, S'[m]? = some c → c.live = true → F'.lm[m]? = some b → b ≠ a := fun {m c b} hm l hb q => by
    have := ((R.cell m c b hm hb).2 l).2.2
    rw [q, pa] at this
    cases this
  refine ⟨h0, ⟨fun b o e => ?_, fun b o e => ?_, fun b o e => ?_, fun b xs e => ?_, by rw [List.length_set]; exact R.len, fun m c b hm hb => ?_, fun m1 m2 c1 c2 b h1 h2 l1 l2 e1 e2 => ?_⟩, ⟨le.k, bb, rfl, le.g, fun b o e => ?_, le.m⟩⟩
  · rw [upd_ne fun q => by rw [q, ga] at e; cases e]
    exact R.g _ _ e
  · have e' : F'.B b = some o := e
    rw [upd_ne fun q => by rw [q, bb, hB] at e'; cases e']
    exact R.b _ _ e'
  · have e' : F.P b = some o := e
    have q : b ≠ a := fun q => by rw [q, hP] at e'; cases e'
    rw [upd_ne q]
    exact R.p _ _ (by rw [pq b q]; exact e')
  · by_cases q : b = a
    · rw [q, upd_same] at e
      exact absurd (Option.some.inj e) (hut xs)
    · rw [upd_ne q] at e
      exact R.tup _ _ e
  · by_cases q : m = n
    · subst q
      rw [List.getElem?_set_self hlt] at hm
      cases hm
      have hb' : F'.lm[m]? = some b := hb
      rw [ha'] at hb'
      cases hb'
      exact ⟨hok, fun _ => ⟨ga, by show F'.B a = none; rw [bb]; exact hB, hP⟩⟩
    · rw [List.getElem?_set_ne (fun z => q z.symm)] at hm
      obtain ⟨j1, j2⟩ := R.cell m c b hm hb
      have nl : notLok c = true := by
        have h3 : (S'.set n .gone)[m]? = some c := by rw [List.getElem?_set_ne (fun z => q z.symm)]; exact hm
        exact List.all_eq_true.mp hall c (List.mem_of_getElem? h3)
      refine ⟨?_, fun l => ⟨(j2 l).1, (j2 l).2.1, by
        show F.P b = none
        rw [← pq b (ne hm l hb)]
        exact (j2 l).2.2⟩⟩
      cases c with
      | lok ks ds => cases nl
      | lokt ks ds => cases nl
      | lst xs =>
        obtain ⟨ys, e1, r1⟩ := j1
        exact ⟨ys, (upd_ne (ne hm rfl hb)).trans e1, RelL.wk wk _ _ r1⟩
      | dik ks ds =>
        obtain ⟨ys, z, e1, r1⟩ := j1
        exact ⟨ys, z, (upd_ne (ne hm rfl hb)).trans e1, RelL.wk wk _ _ r1⟩
      | dit ks ds =>
        obtain ⟨ys, z, e1, r1⟩ := j1
        exact ⟨ys, z, (upd_ne (ne hm rfl hb)).trans e1, RelL.wk wk _ _ r1⟩
      | ins C fs =>
        obtain ⟨dx, ys, e1, r1⟩ := j1
        exact ⟨dx, ys, (upd_ne (ne hm rfl hb)).trans e1, RelL.wk wk _ _ r1⟩
      | frz d => exact Rel.wk wk _ _ j1
      | dlf ks ds =>
        obtain ⟨es, e1, z, r1, r2, t⟩ := j1
        exact ⟨es, (upd_ne (ne hm rfl hb)).trans e1, z, RelL.wk wk _ _ r1, RelL.wk wk _ _ r2, t⟩
      | gone => trivial
  · have old : ∀ {m : Nat} {c : Cell} {b : Addr}, (S'.set n c0)[m]? = some c → c.live = true → m ≠ n → S'[m]? = some c := fun {m c b} hm l q => by
      rw [List.getElem?_set_ne (fun z => q z.symm)] at hm
      exact hm
    by_cases q1 : m1 = n
    · by_cases q2 : m2 = n
      · rw [q1, q2]
      · have e1' : F'.lm[m1]? = some b := e1
        rw [q1, ha'] at e1'
        cases e1'
        exact absurd rfl (ne (old (b := a) h2 l2 q2) l2 e2)
    · by_cases q2 : m2 = n
      · have e2' : F'.lm[m2]? = some b := e2
        rw [q2, ha'] at e2'
        cases e2'
        exact absurd rfl (ne (old (b := a) h1 l1 q1) l1 e1)
      · exact R.inj m1 m2 c1 c2 b (old (b := b) h1 l1 q1) (old (b := b) h2 l2 q2) l1 l2 e1 e2
  · have e' : F'.G b = some o := e
    rcases le.n b o e' with q | q
    · exact .inl q
    · have q3 : b ≠ a := fun z => by
        have q2 := q.2
        rw [z] at q2
        have q4 : upd F.P a _ a = none := q2
        rw [upd_same] at q4
        cases q4
      have q2 : upd F.P a _ b = none := q.2
      rw [upd_ne q3] at q2
      exact .inr ⟨q.1, q2⟩
theorem Rep.unlock {F F' : Fm} {S' S'' : Sto} {H' : Hp} {a : Addr} {od : Obj} {u : HO} {n : Nat} (hB : F.B a = none) (hG : F.G a = none) (hP : F.P a = none) (hut : ∀ xs, u ≠ .tup xs) (le : Le { F with P := upd F.P a (.frz od u) } F') (R : Rep F' S' H') (ha : F.lm[n]? = some a)
    (h : unlockS n S' = some S'') : H' a = some (.frz od u) ∧ Rep { F' with P := F.P } S'' (upd H' a u) ∧ Le F { F' with P := F.P } := by
  have pa : F'.P a = some (.frz od u) := by rw [le.p]; exact upd_same
  have ha' : F'.lm[n]? = some a := prefix_get le.m ha
  have wk : Wk F' { F' with P := F.P } := ⟨rfl, Same.refl _, Same.refl _, List.prefix_refl _⟩
  unfold unlockS at h
  split at h
  · rename_i ks ds hc
    obtain ⟨hall, h⟩ := of_ite h
    cases h
    obtain ⟨⟨o, xs, hz, eP, rl⟩, _⟩ := R.cell n _ a hc ha'
    rw [pa] at eP
    cases eP
    exact Rep.unlock0 hB hG hP hut le R ha hc hall rfl ⟨xs, hz, upd_same, RelL.wk wk _ _ rl⟩
  · rename_i ks ds hc
    obtain ⟨hall, h⟩ := of_ite h
    cases h
    obtain ⟨⟨o, xs, hz, eP, rl⟩, _⟩ := R.cell n _ a hc ha'
    rw [pa] at eP
    cases eP
    exact Rep.unlock0 hB hG hP hut le R ha hc hall rfl ⟨xs, hz, upd_same, RelL.wk wk _ _ rl⟩
  · cases h
/-- a thing done behind a lock, then free again -/
theorem unlockO_post {F F' : Fm} {a : Addr} {od : Obj} {u : HO} {n : Nat} (hB : F.B a = none) (hG : F.G a = none) (hP : F.P a = none) (hut : ∀ xs, u ≠ .tup xs) (ha : F.lm[n]? = some a) {o oo : Out} {D : Ends} (hf : unlockO n o = some oo) (hq : PostS F oo D) (le' : Le { F with P := upd F.P a (.frz od u) } F') {H' : Hp} (R' : Rep F' o.S H') :
    PostO F' ⟨fun σ' H' => H' a = some (.frz od u) ∧ D.nx σ' (upd H' a u), fun v H' => H' a = some (.frz od u) ∧ D.rt v (upd H' a u), fun σ' H' => H' a = some (.frz od u) ∧ D.bk σ' (upd H' a u), fun σ' H' => H' a = some (.frz od u) ∧ D.ct σ' (upd H' a u)⟩ H' o := by
  have un : ∀ {S' S'' : Sto}, Rep F' S' H' → unlockS n S' = some S'' → H' a = some (.frz od u) ∧ Rep { F' with P := F.P } S'' (upd H' a u) ∧ Le F { F' with P := F.P } := fun {S' S''} R' hu => Rep.unlock hB hG hP hut le' R' ha hu
  have wk2 : Wk F' { F' with P := F.P } := ⟨rfl, Same.refl _, Same.refl _, List.prefix_refl _⟩
  cases o with
  | nx ρ' S' =>
    unfold unlockO at hf
    simp only at hf
    split at hf
    · rename_i S'' hu
      cases hf
      obtain ⟨u1, u2, u3⟩ := un R' hu
      exact fun σ' r' => ⟨u1, hq _ _ u3 u2 σ' (r'.wk wk2)⟩
    · cases hf
  | rt d S' =>
    unfold unlockO at hf
    simp only at hf
    split at hf
    · rename_i S'' hu
      cases hf
      obtain ⟨u1, u2, u3⟩ := un R' hu
      exact fun v rv => ⟨u1, hq _ _ u3 u2 v (Rel.wk wk2 _ _ rv)⟩
    · cases hf
  | bk ρ' S' =>
    unfold unlockO at hf
    simp only at hf
    split at hf
    · rename_i S'' hu
      cases hf
      obtain ⟨u1, u2, u3⟩ := un R' hu
      exact fun σ' r' => ⟨u1, hq _ _ u3 u2 σ' (r'.wk wk2)⟩
    · cases hf
  | ct ρ' S' =>
    unfold unlockO at hf
    simp only at hf
    split at hf
    · rename_i S'' hu
      cases hf
      obtain ⟨u1, u2, u3⟩ := un R' hu
      exact fun σ' r' => ⟨u1, hq _ _ u3 u2 σ' (r'.wk wk2)⟩
    · cases hf
def dForK (f : DE) (g : DG) (body : DS) : DS := fun ρ S => match f ρ S with
  | some (.loc n, _) => (match S[n]? with
    | some (.dik ks ds) => (match dFor (iKeyL f) g body ρ (S.set n (.lok ks ds)) with
      | some o => unlockO n o
      | none => none)
    | some (.dit ks ds) => (match dFor (iKeyL f) g body ρ (S.set n (.lokt ks ds)) with
      | some o => unlockO n o
      | none => none)
    | _ => none)
  | _ => none
theorem sd_forK {g : DG} {body : DS} (h : PS X st (tFor (rdI X.K (iKeyL f)) (rdG X.K g) (rdS X.K body))) : SD X st (dForK f g body) := .of (ps_lock h) fun F S H ρ σ oo D hk R rr hf hq => by
  have key : ∀ {n : Nat} {c c' : Cell} {o : Out}, lockC c = some c' → S[n]? = some c → dFor (iKeyL f) g body ρ (S.set n c') = some o → unlockO n o = some oo → tLock (tFor (rdI X.K (iKeyL f)) (rdG X.K g) (rdS X.K body)) D σ H := fun {n c c' o} hl hc ho hf => by
    obtain ⟨a, u, ha, e, hu, ga, ba, pa, hm, ht⟩ := R.atL hl hc
    refine ⟨a, u, e, hm, fun od => ?_⟩
    have wk : Wk F { F with P := upd F.P a (.frz od u) } := ⟨rfl, Same.refl _, Same.refl _, List.prefix_refl _⟩
    exact for_go (F := { F with P := upd F.P a (.frz od u) }) hk (R.lock hl hc ha e od hu) (rr.wk wk) ho fun F' H' le R' => unlockO_post ba ga pa ht ha hf hq le R'
  unfold dForK at hf
  split at hf
  · rename_i n S1 h1
    split at hf
    · rename_i ks ds hc
      split at hf
      · rename_i o ho
        exact key rfl hc ho hf
      · cases hf
    · rename_i ks ds hc
      split at hf
      · rename_i o ho
        exact key rfl hc ho hf
      · cases hf
    · cases hf
  · cases hf
end
end Dn

/-! names set by the places of a list -/
namespace Dn
open PySem PySem.Spec PyProof.Rows L2
section
variable {X : Cx} {e : Expr} {es : List Expr}
def gLstD (n : Nat) (h : DGs) : DG := fun d ρ S => match asL S d with
  | some ds => if ds.length = n then h ds ρ S else none
  | none => none
theorem gd_lst {n : Nat} {h : DGs} (h2 : GDs X es h) (hp : PG X e (gLst X.K n (rdGs X.K h))) : GD X e (gLstD n h) :=
  .of hp fun F S H ρ σ d v ρ' S' Q hk R rr rv hf hq => by
    unfold gLstD at hf
    split at hf
    · rename_i ds h3
      obtain ⟨hn, hf⟩ := of_ite hf
      obtain ⟨a, xs, rfl, hs, rl⟩ := asL_sq R rv h3
      exact ⟨a, xs, rfl, by rw [← hk]; exact hs, by rw [← rl.length]; exact hn, F, S, ρ, ds, ρ', S', hk, R, rr, rl, hf, hq⟩
    · cases hf
theorem gd_l {h : DGs} {k n : Nat} {pos : Pos} (hc : X.calm = true) (h2 : GDs X es h) (hn : (assignEach es X.env).length = n := by rfl) (hst : (assignEach es X.env).findIdx? (·.1) = none := by rfl) : GD X (.Tuple es k pos) (gLstD n h) := gd_lst h2 (pg_lst hc h2.pg hn hst)
end
end Dn

/-! sorted texts, comprehensions over a live dict, reversed ranges -/
namespace Dn
open PySem PySem.Spec PyProof.Rows L2
/-! ### texts in order -/
theorem lt_asym : ∀ a b : List Nat, ltCps a b = true → ltCps b a = false
  | [], [], h => by cases h
  | [], _ :: _, _ => rfl
  | _ :: _, [], h => by cases h
  | x :: a, y :: b, h => by
    unfold ltCps at h ⊢
    simp only [Bool.or_eq_true, decide_eq_true_eq, Bool.and_eq_true, beq_iff_eq] at h
    simp only [Bool.or_eq_false_iff, decide_eq_false_iff_not, Bool.and_eq_false_imp, beq_iff_eq]
    rcases h with h | ⟨h1, h2⟩
    · exact ⟨by omega, fun q => by omega⟩
    · exact ⟨by omega, fun _ => lt_asym a b h2⟩
theorem lt_eq : ∀ a b : List Nat, ltCps a b = false → ltCps b a = false → a = b
  | [], [], _, _ => rfl
  | [], _ :: _, h, _ => by cases h
  | _ :: _, [], _, h => by cases h
  | x :: a, y :: b, h, k => by
    unfold ltCps at h k
    simp only [Bool.or_eq_false_iff, decide_eq_false_iff_not, Bool.and_eq_false_imp, beq_iff_eq] at h k
    have e : x = y := by omega
    subst e
    rw [lt_eq a b (h.2 rfl) (k.2 rfl)]
theorem lt_trans : ∀ a b c : List Nat, ltCps b a = false → ltCps c b = false → ltCps c a = false
  | [], _, [], _, _ => rfl
  | [], [], _ :: _, _, _ => rfl
  | [], _ :: _, _ :: _, _, _ => rfl
  | _ :: _, [], _, h, _ => by cases h
  | _ :: _, _ :: _, [], _, h => by cases h
  | x :: a, y :: b, z :: c, h, k => by
    unfold ltCps at h k ⊢
    simp only [Bool.or_eq_false_iff, decide_eq_false_iff_not, Bool.and_eq_false_imp, beq_iff_eq] at h k ⊢
    refine ⟨by omega, fun q => ?_⟩
    exact lt_trans a b c (h.2 (by omega)) (k.2 (by omega))
def leS (a b : Str) : Bool := !ltCps b.cps.toList a.cps.toList
theorem leS_trans {a b c : Str} (h : leS a b = true) (k : leS b c = true) : leS a c = true := by
  unfold leS at *
  simp only [Bool.not_eq_true'] at *
  exact lt_trans _ _ _ h k
theorem leS_total (a b : Str) : (leS a b || leS b a) = true := by
  unfold leS
  cases h : ltCps b.cps.toList a.cps.toList with
  | false => rfl
  | true => rw [lt_asym _ _ h] <;> rfl
theorem str_ext {a b : Str} (h : a.cps.toList = b.cps.toList) : a = b := by
  cases a
  cases b
  congr 1
  exact Array.toList_inj.mp h
theorem leS_anti {a b : Str} (h : leS a b = true) (k : leS b a = true) : a = b := by
  unfold leS at *
  simp only [Bool.not_eq_true'] at *
  exact str_ext (lt_eq _ _ k h)
def ordS (l : List Str) : Prop := l.Pairwise fun a b => leS a b = true
theorem ord_uniq : ∀ {l m : List Str}, ordS l → ordS m → l.Perm m → l = m
  | [], m, _, _, p => (List.Perm.eq_nil p.symm).symm
  | x :: l, [], _, _, p => by cases p.length_eq
  | x :: l, y :: m, h, k, p => by
    have hx := List.pairwise_cons.mp h
    have ky := List.pairwise_cons.mp k
    have e : x = y := by
      have m1 : x ∈ y :: m := p.mem_iff.mp List.mem_cons_self
      have m2 : y ∈ x :: l := p.mem_iff.mpr List.mem_cons_self
      rcases List.mem_cons.mp m1 with e | m1
      · exact e
      · rcases List.mem_cons.mp m2 with e | m2
        · exact e.symm
        · exact leS_anti (hx.1 y m2) (ky.1 x m1)
    subst e
    rw [ord_uniq hx.2 ky.2 (List.Perm.cons_inv p)]
theorem ord_of_sorted : ∀ {l : List Str}, sortedS l = true → ordS l
  | [], _ => List.Pairwise.nil
  | [x], _ => List.pairwise_singleton _ _
  | x :: y :: l, h => by
    have h1 : (leS x y && risingS y l) = true := h
    rw [Bool.and_eq_true] at h1
    have ih : ordS (y :: l) := ord_of_sorted (l := y :: l) h1.2
    refine List.pairwise_cons.mpr ⟨fun z hz => ?_, ih⟩
    rcases List.mem_cons.mp hz with e | hz
    · rw [e]
      exact h1.1
    · exact leS_trans h1.1 ((List.pairwise_cons.mp ih).1 z hz)
def sortS (l : List Str) : List Str := l.mergeSort leS
theorem sortS_perm (l : List Str) : (sortS l).Perm l := List.mergeSort_perm l leS
theorem sortS_ord (l : List Str) : ordS (sortS l) := List.pairwise_mergeSort (le := leS) (fun a b c h k => leS_trans h k) (fun a b => leS_total a b) l
theorem sortS_uniq {l m : List Str} (p : m.Perm l) (h : sortedS m = true) : m = sortS l := ord_uniq (ord_of_sorted h) (sortS_ord l) (p.trans (sortS_perm l).symm)
/-! ### sorted -/
def keysS : List Key → Option (List Str)
  | [] => some []
  | .inr x :: ks => (match keysS ks with
    | some xs => some (x :: xs)
    | none => none)
  | _ => none
theorem keysS_ok : ∀ {ks : List Key} {xs : List Str}, keysS ks = some xs → ks = xs.map Sum.inr
  | [], xs, h => by
    cases (show some ([] : List Str) = some xs from h)
    rfl
  | .inr x :: ks, xs, h => by
    unfold keysS at h
    split at h
    · rename_i ys hy
      cases h
      rw [keysS_ok hy] <;> rfl
    · cases h
  | .inl i :: ks, xs, h => by cases h
def srt (S : Sto) (x : DV) : Option (List Str) := match asL S x with
  | some ds => (match strsD ds with
    | some xs => if xs.length < 64 then some (sortS xs) else none
    | none => none)
  | none => (match asK S x with
    | some (ks, _) => (match keysS ks with
      | some xs => if xs.length < 64 then some (sortS xs) else none
      | none => none)
    | none => none)
def pSorted : PL := fun xs S => match xs with
  | [x] => (match srt S x with
    | some ys => some (.lst .own (ys.map .str), S)
    | none => none)
  | _ => none
abbrev rSortedAll (K : PySem.W.Frag) : List V → Hp → VK → Prop := fun xs H Q => rSortedS K xs H Q ∨ (∃ (a : Addr) (kvs : List (Key × V)) (ks : List Str), xs = [.ref a] ∧ Rd H a (.dK kvs) ∧ kvs.map (·.1) = ks.map Sum.inr ∧ ks.length < 64 ∧
    ∀ ys p, ys.Perm ks → sortedS ys = true → H p = none → Q (.ref p) (upd H p (.lst (ys.map V.str))))
theorem call_sortedAll {X : Cx} (hc : X.calm = true) : CallR X (.builtin "sorted") (rSortedAll X.K) := cr_sortedS.or (call_sortedD hc)
theorem srt_go {K : PySem.W.Frag} {F : Fm} {S : Sto} {H : Hp} {x : DV} {v : V} {ys : List Str} {Q : VK} (hk : F.K = K) (R : Rep F S H) (rv : Rel F x v) (h : srt S x = some ys)
    (hq : ∀ p, H p = none → Q (.ref p) (upd H p (.lst (ys.map V.str)))) : rSortedAll K [v] H Q := by
  unfold srt at h
  split at h
  · rename_i ds hL
    split at h
    · rename_i xs hx
      obtain ⟨h64, e⟩ := of_ite h
      cases e
      obtain ⟨a, us, rfl, hs, rl⟩ := asL_sq R rv hL
      obtain rfl := strsD_ok rl hx
      rw [hk] at hs
      exact .inl ⟨a, xs, rfl, hs, h64, fun ys p hp ho hn => by
        rw [sortS_uniq hp ho]
        exact hq p hn⟩
    · cases h
  · split at h
    · rename_i ks ds hK
      split at h
      · rename_i xs hx
        obtain ⟨h64, e⟩ := of_ite h
        cases e
        obtain ⟨a, us, rfl, hz, hs, rl⟩ := asK_ok R rv hK
        have e := zip_keys (ks := ks) (us := us) (hz.trans rl.length)
        exact .inr ⟨a, _, xs, rfl, hs, by rw [e, keysS_ok hx], h64, fun ys p hp ho hn => by
          rw [sortS_uniq hp ho]
          exact hq p hn⟩
      · cases h
    · cases h
theorem ok_sorted {K : PySem.W.Frag} : OkL K pSorted (rSortedAll K) := fun F S H xs vs d S' Q hk R r hp hq => by
  unfold pSorted at hp
  split at hp
  · rename_i x
    obtain ⟨v, rfl, rv⟩ := one r
    split at hp
    · rename_i ys hy
      cases hp
      exact srt_go hk R rv hy (new_lst R (strs_rel ys) hq)
    · cases hp
  · cases hp
/-! ### an expression that walks a dict: it is locked meanwhile -/
section
variable {X : Cx} {e : Expr} {f g : DE}
end
/-! ### a statement that walks a dict -/
section
variable {X : Cx} {st : Stmt} {f : DE} {s : DS}
end
/-! ### reversed(range(n)), range(i, j, c), text.index(sign) -/
section
variable {X : Cx} {e : Expr} {f g : DE} {fa : DA}
end
end Dn

/-! dicts with keys (number, truth) -/
namespace Dn
open PySem PySem.Spec PyProof.Rows L2

section
variable {P : Program} {w : World} {H : Hp} {h : Heap} {a b : Addr}
end
section
variable {X : Cx}
end

/-! ### over the store -/
section
variable {F : Fm} {S : Sto} {H : Hp}
end
section
variable {X : Cx} {e a b : Expr} {f g : DE} {pos : Pos} {st : Stmt}
end
end Dn

/-! tables of the module with text keys; {(i, b): v} -/
namespace Dn
open PySem PySem.Spec PyProof.Rows L2

/-! ### tables -/
section
variable {X : Cx} {e a b : Expr} {f g : DE} {pos p1 : Pos} {x : Str} {kvs : List (Str × He.Dv)}
end
/-! ### the head, with tables -/
/-! ### {(i, b): v} -/
section
variable {X : Cx} {k v : Expr} {tk tv : TE} {pos : Pos} {f g : DE}
end
end Dn

/-! sorted(set(xs)), len(set(xs)) -/
namespace Dn
open PySem PySem.Spec PyProof.Rows L2

/-! ### a set of numbers and texts whose table can be walked -/
structure KSe (P : Program) (w : World) (L : List (Key × Value)) (es : Array (Int × Value)) (t : SetTable) : Prop where
  perm : es.toList.Perm (L.map fun p => ((mixKind P w).hash p.1, p.2))
  is : ∀ p ∈ L, (mixKind P w).is p.1 p.2 = true ∧ p.2.scannable = true
  nd : (L.map (·.1)).Nodup
  few : L.length < scanBound
  fits : t.fits es.size = true
  ris : Ris t.place.toList
  led : w.params.followText "set-order" = true ∨ t.led = true
def KS (P : Program) (w : World) (h : Heap) (a : Addr) (L : List (Key × Value)) : Prop := ∃ o es ep t, h.get? a = some o ∧ o.ExactSet ∧ o.data = .set es ep t ∧ KSe P w L es t
section
variable {P : Program} {w : World} {L : List (Key × Value)} {es : Array (Int × Value)} {t : SetTable}
theorem KSe.size (K : KSe P w L es t) : es.size = L.length := by
  rw [← Array.length_toList, K.perm.length_eq, List.length_map]
theorem KS.at {h h' : Heap} {a : Addr} (R : KS P w h a L) (k : ∀ o, h.get? a = some o → h'.get? a = some o) : KS P w h' a L := by
  obtain ⟨o, es, ep, t, ho, r⟩ := R
  exact ⟨o, es, ep, t, k o ho, r⟩
end
section
variable {P : Program} {w : World} {A : Around} {E : Value → Shared → Prop} {s : Shared} {a : Addr}
end
end Dn

/-! sorted(set(xs)), len(set(xs)): the calls -/
namespace Dn
open PySem PySem.Spec PyProof.Rows L2
section
variable {P : Program} {w : World} {A : Around} {E : Value → Shared → Prop} {s : Shared}
end
end Dn

/-! sorted(set(xs)), len(set(xs)): the rules -/
namespace Dn
open PySem PySem.Spec PyProof.Rows L2
/-! ### sorted of the set at a -/
section
variable {P : Program} {w : World} {A : Around} {E : Value → Shared → Prop} {s : Shared} {a : Addr} {L : List (Key × Value)}
end
/-! ### the rules -/
section
variable {X : Cx}
end
/-! ### over the store -/
section
variable {X : Cx} {e a : Expr} {f : DE} {p p2 q pos : Pos}
end
end Dn

/-! x in (y, ..), data of any depth -/
namespace Dn
open PySem PySem.Spec PyProof.Rows L2
section
variable {X : Cx} {a b : Expr} {f g : DE} {pos : Pos}
end
end Dn

/-! (x, ..) * k -/
namespace Dn
open PySem PySem.Spec PyProof.Rows L2
theorem tup_mul0 (l : Addr) (n : Nat) (dd : Option Addr) (sl : Array (Option Value)) (x : Int) (u : Tok) (c0 : (decide (x < -(2 ^ 63)) || decide (x ≥ 2 ^ 63)) = false) :
    Meets (Builtin.«tuple.__mul__» ⟨[.ref l, .int x u], []⟩) (fun _ R s => s.heap.get? l = some { cls := .type "tuple", dict := dd, data := .seq #[] n, slots := sl } ∧ R (.ok (.ret (Value.ref l))) s) :=
  .of_wp fun prog w A R s hyp => by
    obtain ⟨hp, g, d, tk, os⟩ := s
    obtain ⟨at0, fin⟩ := hyp
    have f1 := AutoSeq1.idx_int
    have f2 : (Array.isEmpty (#[] : Array Value) || x == 1) = true := rfl
    wp_walk using PySem.AutoSeq1.wpAny_loadPart' at0
    repeat (first
      | (refine wpAny_ite_false (decide_eq_false (by rw [c0]; exact Bool.false_ne_true)) ?_; wp_walk using PySem.AutoSeq1.wpAny_loadPart' at0)
      | (refine wpAny_ite_true (decide_eq_true f2) ?_; wp_walk using PySem.AutoSeq1.wpAny_loadPart' at0))
    exact ⟨_, rfl, fin⟩
/-- () * k is () -/
def rRepT0 (K : PySem.W.Frag) : R2 := fun x y H Q => ∃ l k, x = .ref l ∧ y = .int k ∧ SqT K H l [] ∧ 2 ≤ k ∧ k ≤ 1000 ∧ Q (.ref l) H
section
variable {X : Cx}
theorem op_repT0 : OpR X (binaryOp .Mult) (rRepT0 X.K) := by
  intro pins s σ H x y v u Q I rx ry h
  obtain ⟨l, k, rfl, rfl, hT, k2, k3, q⟩ := h
  cases rx
  obtain ⟨t, rfl⟩ := ry
  obtain ⟨its, r, ⟨⟨cls, dd, data, sl⟩, at0, ec, n, ed⟩, hs⟩ := I.tuple hT
  cases r
  simp only at ec ed
  subst ec ed
  have c0 : (decide (k < -(2 ^ 63)) || decide (k ≥ 2 ^ 63)) = false := by
    rw [decide_eq_false (by omega), Bool.false_or]
    exact decide_eq_false (by omega)
  exact wpAny_binaryOp_repeat_ref (T := "tuple") (U := "int") (by decide) ⟨_, at0, rfl⟩ (fun s' => typeIs_int s' k t) noFill_tuple_mul F.fills_int_mul F.slot_int_rmul repeat_tuple F.slot_int_index.lookup
    (call_meets F.slot_int_rmul (typeIs_int s k t) F.entry_int_rmul (F.args_int_rmul_2 _ _) (int_rmul_tuple k t l #[] n dd sl)
      ⟨at0, rfl, ⟨_, at0, rfl⟩, call_meets F.slot_tuple_mul ⟨_, at0, rfl⟩ F.entry_tuple_mul (F.args_tuple_mul_2 _ _) (tup_mul0 l n dd sl k t c0) ⟨at0, ⟨.ref l, H, I, rfl, q⟩⟩⟩)
def pMulT : P2 := fun x y S => match x, y with
  | .tup xs, .int k => if 2 ≤ k ∧ k ≤ 1000 ∧ xs.length ≤ 1000 then some (.tup (repD xs k.toNat), S) else none
  | _, _ => none
theorem rep_nil (n : Nat) : repD ([] : List DV) n = [] := by
  unfold repD
  induction n with
  | zero => rfl
  | succ n ih =>
    rw [List.replicate_succ, List.flatten_cons, ih]
    rfl
theorem ok_mulT {K : PySem.W.Frag} : Ok2 K pMulT (fun x y H Q => rRepT K x y H Q ∨ rRepT0 K x y H Q) := fun F S H x y vx vy d S' Q hk R rx ry hp hq => by
  unfold pMulT at hp
  split at hp
  · rename_i xs k
    obtain ⟨⟨h1, h2, h3⟩, hp⟩ := of_ite hp
    cases hp
    obtain ⟨a, us, rfl, hs, rl⟩ := tup_sq R rx
    rw [hk] at hs
    have ey := (show vy = .int k from ry)
    subst ey
    cases xs with
    | nil =>
      have e : us = [] := rl
      subst e
      exact .inr ⟨a, k, rfl, rfl, hs, h1, h2, hq F H _ (.refl F) R (by rw [rep_nil]; exact rx)⟩
    | cons x0 xs =>
      refine .inl ⟨a, k, us, rfl, rfl, hs, fun e => ?_, h1, h2, by rw [← rl.length]; exact h3, new_tup R (rl.rep k.toNat) hq⟩
      have := rl.length
      rw [e] at this
      cases this
  · cases hp
theorem ed_mulT {a b : Expr} {f g : DE} {pos : Pos} (ha : ED X a f) (hb : ED X b g) : ED X (.BinOp a .Mult b pos) (dBin pMulT f g) := ed_bin (op_repT.or op_repT0) ok_mulT ha hb
end
end Dn

namespace Dn
open PySem PySem.Spec PyProof.Rows L2

/-! ### d.pop(k) -/
section
variable {X : Cx} {e a b o : Expr} {f g : DE} {fa : DA} {pos : Pos} {st : Stmt}
end

/-! ### min(d), its keys numbers -/
end Dn

/-! one step at a time -/
namespace Dn
open PySem PySem.Spec PyProof.Rows L2
section
variable {f g h : DE} {fa : DA} {s t : DS} {p : P2} {ρ ρ' : Ev} {S S1 S2 S3 S' : Sto} {i : Nat} {d x y z x' y' z' : DV} {pl F : PL} {xs ds : List DV} {o : Option Out} {r : Option (DV × Sto)}
theorem seq_nx (h : s ρ S = some (.nx ρ' S')) : dSeq s t ρ S = t ρ' S' := by rw [v_seq, h]
theorem seq_rt (h : s ρ S = some (.rt d S')) : dSeq s t ρ S = some (.rt d S') := by rw [v_seq, h]
theorem ifS_t (h : f ρ S = some (.bl true, S1)) : dIfS f s t ρ S = s ρ S1 := by rw [v_ifS, h]
theorem ifS_f (h : f ρ S = some (.bl false, S1)) : dIfS f s t ρ S = t ρ S1 := by rw [v_ifS, h]
theorem set_of (h : f ρ S = some (d, S1)) : dSet i f ρ S = some (.nx (ρ.set i (some d)) S1) := by rw [v_set, h]
theorem ret_of (h : f ρ S = some (d, S1)) : dRet f ρ S = some (.rt d S1) := by rw [v_ret, h]
theorem bin_of (h1 : f ρ S = some (x, S1)) (h2 : g ρ S1 = some (y, S2)) (h3 : p x y S2 = r) : dBin p f g ρ S = r := by
  rw [v_bin, h1]
  simp only [h2, h3]
theorem prim_of (h1 : fa ρ S = some (xs, S1)) (h2 : pl xs S1 = r) : dPrim pl fa ρ S = r := by
  rw [v_prim, h1]
  simp only [h2]
theorem args1 (h1 : f ρ S = some (x, S1)) : aCons f aNil ρ S = some ([x], S1) := by
  rw [v_cons, h1]
  rfl
theorem args2 (h1 : f ρ S = some (x, S1)) (h2 : g ρ S1 = some (y, S2)) : aCons f (aCons g aNil) ρ S = some ([x, y], S2) := by
  rw [v_cons, h1]
  simp only [args1 h2]
theorem args3 (h1 : f ρ S = some (x, S1)) (h2 : g ρ S1 = some (y, S2)) (h3 : h ρ S2 = some (z, S3)) : aCons f (aCons g (aCons h aNil)) ρ S = some ([x, y, z], S3) := by
  rw [v_cons, h1]
  simp only [args2 h2 h3]
theorem argsC {xs : List DV} (h1 : f ρ S = some (x, S1)) (h2 : fa ρ S1 = some (xs, S2)) : aCons f fa ρ S = some (x :: xs, S2) := by
  rw [v_cons, h1]
  simp only [h2]
theorem callP (h1 : fa ρ S = some (xs, S1)) (hc : cpL true S1 xs = some ds) (hp : pureOf F ds = some d) : dPrim (cP (pureOf F) []) fa ρ S = some (d, S1) := by
  rw [v_prim, h1]
  simp only [cP_eq, hc, hp]
theorem callPP (h1 : fa ρ S = some (xs, S1)) (hc : plainL xs = true) (hp : pureOf F xs = some d) : dPrim (cP (pureOf F) []) fa ρ S = some (d, S1) := callP h1 (cpL_plain hc) hp
theorem callS (h1 : fa ρ S = some (xs, S1)) (hp : F xs S1 = r) : dPrim (cS F []) fa ρ S = r := by
  rw [v_prim, h1]
  show F (xs ++ []) S1 = r
  rw [List.append_nil, hp]
theorem and_t (h1 : f ρ S = some (.bl true, S1)) (h2 : g ρ S1 = r) : dAnd f g ρ S = r := by
  rw [v_and, h1]
  simp only [h2]
theorem and_f (h1 : f ρ S = some (.bl false, S1)) : dAnd f g ρ S = some (.bl false, S1) := by rw [v_and, h1]
theorem or_f (h1 : f ρ S = some (.bl false, S1)) (h2 : g ρ S1 = r) : dOr f g ρ S = r := by
  rw [v_or, h1]
  simp only [h2]
theorem and_b {a b : Bool} (h1 : f ρ S = some (.bl a, S1)) (h2 : g ρ S1 = some (.bl b, S1)) : dAnd f g ρ S = some (.bl (a && b), S1) := by
  cases a with
  | true => exact and_t h1 h2
  | false => exact and_f h1
theorem not_of {a : Bool} (h1 : f ρ S = some (.bl a, S1)) : dNot f ρ S = some (.bl (!a), S1) := by rw [v_not, h1]
theorem for_of {it : DI} {gt : DG} (h1 : it ρ S = some (ds, S1)) (h2 : forL gt s ds ρ S1 = o) : dFor it gt s ρ S = o := by
  rw [v_for, h1]
  simp only [h2]
theorem run_rt {np n : Nat} {b : DS} (hl : xs.length = np) (h1 : b (xs.map some ++ List.replicate (n - xs.length) none) S = some (.rt d S')) : runF np n b xs S = some (d, S') := by
  unfold runF
  rw [if_pos hl, h1]
theorem run_nx {np n : Nat} {b : DS} (hl : xs.length = np) (h1 : b (xs.map some ++ List.replicate (n - xs.length) none) S = some (.nx ρ' S')) : runF np n b xs S = some (.non, S') := by
  unfold runF
  rw [if_pos hl, h1]
theorem sub_of {k : DV} (h1 : f ρ S = some (y, S1)) (h2 : g ρ S1 = some (x, S2)) (h3 : h ρ S2 = some (k, S3)) (h4 : setI x k y S3 = some S') : dSub f g h ρ S = some (.nx ρ S') := by
  unfold dSub
  simp only [h1, h2, h3, h4]
end
end Dn

/-! loops as folds -/
namespace Dn
open PySem PySem.Spec PyProof.Rows L2
theorem for_fold0 {α β : Type} {D : α → DV} {g : DG} {body : DS} {I : Nat → β → Ev → Prop} {st : β → Sto} {f : β → α → β} : ∀ (K : List α) (k : Nat) (b : β) (ρ : Ev), I k b ρ →
    (∀ (i : Nat) (a : α), K[i]? = some a → ∀ b ρ, I (k + i) b ρ → ∃ ρ1 S1 ρ2, g (D a) ρ (st b) = some (ρ1, S1) ∧ (body ρ1 S1 = some (.nx ρ2 (st (f b a))) ∨ body ρ1 S1 = some (.ct ρ2 (st (f b a)))) ∧ I (k + i + 1) (f b a) ρ2) →
    ∃ ρ', forL g body (K.map D) ρ (st b) = some (.nx ρ' (st (K.foldl f b))) ∧ I (k + K.length) (K.foldl f b) ρ'
  | [], k, b, ρ, h, _ => ⟨ρ, rfl, h⟩
  | a :: K, k, b, ρ, h, hs => by
    obtain ⟨ρ1, S1, ρ2, h1, h2, h3⟩ := hs 0 a rfl b ρ h
    obtain ⟨ρ', h4, h5⟩ := for_fold0 (D := D) (g := g) (body := body) (I := I) (st := st) (f := f) K (k + 1) (f b a) ρ2 h3 fun i a' ha b ρ hb => by
      have := hs (i + 1) a' ha b ρ (by rw [show k + (i + 1) = k + 1 + i by omega]; exact hb)
      rw [show k + (i + 1) + 1 = k + 1 + i + 1 by omega] at this
      exact this
    refine ⟨ρ', ?_, by rw [List.length_cons, List.foldl_cons, show k + (K.length + 1) = k + 1 + K.length by omega]; exact h5⟩
    rw [List.map_cons, List.foldl_cons, ← h4]
    conv => lhs; unfold forL
    simp only [h1]
    rcases h2 with h2 | h2 <;> rw [h2]
/-- a loop that keeps a state: I at each turn -/
theorem for_fold {α β : Type} {D : α → DV} {g : DG} {body : DS} {I : Nat → β → Ev → Prop} {st : β → Sto} {f : β → α → β} (K : List α) (b : β) (ρ : Ev) (h : I 0 b ρ)
    (hs : ∀ (i : Nat) (a : α), K[i]? = some a → ∀ b ρ, I i b ρ → ∃ ρ1 S1 ρ2, g (D a) ρ (st b) = some (ρ1, S1) ∧ (body ρ1 S1 = some (.nx ρ2 (st (f b a))) ∨ body ρ1 S1 = some (.ct ρ2 (st (f b a)))) ∧ I (i + 1) (f b a) ρ2) :
    ∃ ρ', forL g body (K.map D) ρ (st b) = some (.nx ρ' (st (K.foldl f b))) ∧ I K.length (K.foldl f b) ρ' := by
  have := for_fold0 (D := D) (g := g) (body := body) (I := I) (st := st) (f := f) K 0 b ρ h fun i a ha b ρ hb => by
    rw [Nat.zero_add] at hb ⊢
    exact hs i a ha b ρ hb
  rwa [Nat.zero_add] at this
/-- a loop that puts behind a list: one thing each turn -/
theorem for_app {α : Type} {D E : α → DV} {g : DG} {body : DS} {I : Ev → Prop} {st : List DV → Sto} (m : Nat) (K : List α) (acc : List DV) (ρ : Ev) (h : I ρ) (hz : acc.length + K.length ≤ m)
    (hs : ∀ a ∈ K, ∀ (b : List DV) ρ, b.length < m → I ρ → ∃ ρ1 S1 ρ2, g (D a) ρ (st b) = some (ρ1, S1) ∧ body ρ1 S1 = some (.nx ρ2 (st (b ++ [E a]))) ∧ I ρ2) :
    ∃ ρ', forL g body (K.map D) ρ (st acc) = some (.nx ρ' (st (acc ++ K.map E))) ∧ I ρ' := by
  obtain ⟨ρ', h1, h2, h3⟩ := for_fold (D := D) (g := g) (body := body) (I := fun i b ρ => b.length = acc.length + i ∧ I ρ) (st := st) (f := fun b a => b ++ [E a]) K acc ρ ⟨rfl, h⟩ fun i a ha b ρ hb => by
    have hi := (List.getElem?_eq_some_iff.mp ha).1
    obtain ⟨ρ1, S1, ρ2, a1, a2, a3⟩ := hs a (List.mem_of_getElem? ha) b ρ (by omega) hb.2
    exact ⟨ρ1, S1, ρ2, a1, .inl a2, by rw [List.length_append, List.length_singleton]; omega, a3⟩
  have e : ∀ (K : List α) (acc : List DV), K.foldl (fun b a => b ++ [E a]) acc = acc ++ K.map E := by
    intro K
    induction K with
    | nil => intro acc; rw [List.map_nil, List.append_nil] <;> rfl
    | cons a K ih => intro acc; rw [List.foldl_cons, ih, List.map_cons, List.append_assoc] <;> rfl
  rw [e] at h1
  exact ⟨ρ', h1, h3⟩
theorem append_of {f e : DE} {ρ : Ev} {S : Sto} {n : Nat} {xs : List DV} {y : DV} (h1 : f ρ S = some (.loc n, S)) (hn : S[n]? = some (.lst xs)) (h2 : e ρ S = some (y, S)) (hz : xs.length < 16777216) :
    dExpr (dMt pAppend f (aCons e aNil)) ρ S = some (.nx ρ (S.set n (.lst (xs ++ [y])))) := by
  rw [v_expr, v_mt, h1]
  simp only [asL_loc hn, args1 h2, app_loc hn hz]
theorem choose_lt {α : Type} {n : Nat} {P : Nat → α → Prop} (d : α) (h : ∀ k, k < n → ∃ x, P k x) : ∃ f : Nat → α, ∀ k, k < n → P k (f k) :=
  ⟨fun k => if hk : k < n then Classical.choose (h k hk) else d, fun k hk => by
    simp only [dif_pos hk]
    exact Classical.choose_spec (h k hk)⟩
end Dn

/-! more of loops and lists -/
namespace Dn
open PySem PySem.Spec PyProof.Rows L2
section
variable {f g : DE} {ρ : Ev} {S S1 S2 : Sto}
theorem rgN_of {n : Nat} (h : f ρ S = some (.int (n : Nat), S1)) (hz : n < 1000000) : iRange1 (aCons f aNil) ρ S = some ((List.range n).map fun (i : Nat) => DV.int i, S1) := by
  unfold iRange1
  rw [args1 h]
  simp only
  rw [if_pos (by omega), Int.toNat_natCast]
  unfold rgD
  refine congrArg some (congrArg (·, S1) (List.map_congr_left fun i _ => ?_))
  rw [Int.zero_add]
theorem lenL_of {k : LK} {xs : List DV} (h : f ρ S = some (.lst k xs, S1)) : dPrim pLen (aCons f aNil) ρ S = some (.int (xs.length : Nat), S1) := prim_of (args1 h) (by cases k <;> rfl)
theorem lenT_of {xs : List DV} (h : f ρ S = some (.tup xs, S1)) : dPrim pLen (aCons f aNil) ρ S = some (.int (xs.length : Nat), S1) := prim_of (args1 h) rfl
theorem tupL_of {k : LK} {xs : List DV} (h : f ρ S = some (.lst k xs, S1)) : dPrim pTuple (aCons f aNil) ρ S = some (.tup xs, S1) := prim_of (args1 h) (by cases k <;> rfl)
theorem strsD_of : ∀ xs : List Str, strsD (xs.map .str) = some xs
  | [] => rfl
  | x :: xs => by
    show (match strsD (xs.map DV.str) with | some ys => some (x :: ys) | none => none) = _
    rw [strsD_of xs]
theorem sortedL_of {k : LK} {l : List Str} (h : f ρ S = some (.lst k (l.map .str), S1)) (hz : l.length < 64) : dPrim pSorted (aCons f aNil) ρ S = some (.lst .own ((sortS l).map .str), S1) := by
  refine prim_of (args1 h) ?_
  unfold pSorted srt
  simp only [asL_lst, strsD_of, if_pos hz]
theorem iSeqL_of {k : LK} {xs : List DV} (h : f ρ S = some (.lst k xs, S1)) : iSeq f ρ S = some (xs, S1) := by
  rw [iSeq_eq, h]
theorem iSeqT_of {xs : List DV} (h : f ρ S = some (.tup xs, S1)) : iSeq f ρ S = some (xs, S1) := by
  rw [iSeq_eq, h]
/-- a comprehension of all -/
theorem lc_all {α : Type} {D E : α → DV} {g : DG} {c fe : DE} : ∀ {K : List α}, (∀ b ∈ K, ∃ ρ1, g (D b) ρ S = some (ρ1, S) ∧ c ρ1 S = some (.bl true, S) ∧ fe ρ1 S = some (E b, S)) → lcL g c fe ρ (K.map D) S = some (K.map E, S)
  | [], _ => rfl
  | b :: K, h => by
    obtain ⟨ρ1, h1, h2, h3⟩ := h b List.mem_cons_self
    rw [List.map_cons]
    unfold lcL
    simp only [h1, h2, h3, lc_all fun b hb => h b (List.mem_cons_of_mem _ hb)]
    rfl
end
end Dn

/-! sorted(..) of numbers -/
namespace Dn
open PySem PySem.Spec PyProof.Rows L2
end Dn

/-! text * number -/
namespace Dn
open PySem PySem.Spec PyProof.Rows L2
section
variable {X : Cx}
end
end Dn

/-! a comprehension over a list that stays -/
namespace Dn
open PySem PySem.Spec PyProof.Rows L2
theorem addI_of {f g : DE} {ρ : Ev} {S S1 S2 : Sto} {a b : Int} (h1 : f ρ S = some (.int a, S1)) (h2 : g ρ S1 = some (.int b, S2)) : dBin pAdd f g ρ S = some (.int (a + b), S2) := bin_of h1 h2 rfl
theorem subI_of {f g : DE} {ρ : Ev} {S S1 S2 : Sto} {a b : Int} (h1 : f ρ S = some (.int a, S1)) (h2 : g ρ S1 = some (.int b, S2)) : dBin pSub f g ρ S = some (.int (a - b), S2) := bin_of h1 h2 rfl
theorem modI_of {f g : DE} {ρ : Ev} {S S1 S2 : Sto} {a b : Int} (h1 : f ρ S = some (.int a, S1)) (h2 : g ρ S1 = some (.int b, S2)) (hb : 0 < b) : dBin pMod f g ρ S = some (.int (a % b), S2) := bin_of h1 h2 (v_modI hb)
end Dn

/-! list(reversed(a list)) -/
namespace RT
open PySem PySem.Spec PyProof.Rows
section
variable {prog : Program} {w : World} {A : Around} {E : Value → Shared → Prop} {s : Shared}
end
section
variable {prog : Program} {w : World} {A : Around} {E : Value → Shared → Prop} {s : Shared}
end
end RT
namespace Dn
open PySem PySem.Spec PyProof.Rows L2 RT
section
variable {X : Cx}
end
end Dn

/-! list(range(i, j)) -/
namespace Dn
open PySem PySem.Spec PyProof.Rows L2
section
variable {X : Cx}
end
end Dn

/-! x in [y, ..], data of any depth -/
namespace Dn
open PySem PySem.Spec PyProof.Rows L2
section
variable {X : Cx} {a b : Expr} {f g : DE} {pos : Pos}
end
end Dn

/-! max(a list of numbers, default=d) -/
namespace Dn
open PySem PySem.Spec PyProof.Rows L2
section
variable {prog : Program} {w : World} {A : Around} {R : Result → Shared → Prop} {I : Addr} {fp wr : List Addr} {G : Array GenState → Array GenState → Prop} {n : Nat} {P : Nat → Value → Prop} {St : Nat → Shared → Prop}
end
section
variable {prog : Program} {w : World} {A : Around} {E : Value → Shared → Prop} {s : Shared} {l : Addr} {its : List Value} {ns : List Int} {Q : Value → Shared → Prop}
end
section
variable {X : Cx}
/-- a denotation that tells nothing is sound of itself (for the bottom of a recursion) -/
theorem SDs.none {st : List Stmt} : SDs X st (fun _ _ => Option.none) := ⟨⟨fun _ _ _ _ _ _ ⟨_, _, _, _, _, _, _, hf, _⟩ => by cases hf⟩⟩
end
end Dn

/-! one of several classes; fields as targets; makers without a def; isinstance of own classes; dict(..) -/
namespace Dn
open PySem PySem.Spec PyProof.Rows L2
def orD (f g : DE) : DE := fun ρ S => match f ρ S with
  | some r => some r
  | none => g ρ S
@[simp] theorem v_orD {f g : DE} {ρ : Ev} {S : Sto} : orD f g ρ S = (match f ρ S with | some r => some r | none => g ρ S) := (rfl)
/-! ### a field as a target -/
/-! ### C() without an __init__ -/
/-! ### isinstance(x, C), C a class of the text -/
/-! ### dict(pairs) -/
end Dn

/-! a part of the store, cell by cell; dicts as lists of pairs -/
namespace Dn
open PySem PySem.Spec PyProof.Rows L2
abbrev Cs := List (Nat × Cell)
structure AtS (S : Sto) (l : Cs) : Prop where
  nd : (l.map (·.1)).Nodup
  get : ∀ p ∈ l, S[p.1]? = some p.2
theorem AtS.at {S : Sto} {l : Cs} (A : AtS S l) (k : Nat) {a : Nat} {c : Cell} (h : l[k]? = some (a, c) := by rfl) : S[a]? = some c := A.get (a, c) (List.mem_of_getElem? h)
theorem AtS.ext {S S' : Sto} {l : Cs} (A : AtS S l) (h : ∀ a ∈ l.map (·.1), S'[a]? = S[a]?) : AtS S' l :=
  ⟨A.nd, fun p hp => by rw [h p.1 (List.mem_map_of_mem hp)]; exact A.get p hp⟩
theorem AtS.lt {S : Sto} {l : Cs} (A : AtS S l) {a : Nat} (h : a ∈ l.map (·.1)) : a < S.length := by
  obtain ⟨p, hp, rfl⟩ := List.mem_map.mp h
  exact (List.getElem?_eq_some_iff.mp (A.get p hp)).1
/-- from a part to a part: what else was there stays -/
structure Stp (S : Sto) (l : Cs) (S' : Sto) (l' : Cs) : Prop where
  at_ : AtS S' l'
  len : S.length ≤ S'.length
  fr : ∀ i, i < S.length → i ∉ l.map (·.1) → S'[i]? = S[i]?
  fp : ∀ a ∈ l'.map (·.1), a ∈ l.map (·.1) ∨ S.length ≤ a
  nl : S.all notLok = true → S'.all notLok = true
theorem Stp.refl {S : Sto} {l : Cs} (A : AtS S l) : Stp S l S l := ⟨A, Nat.le_refl _, fun _ _ _ => rfl, fun _ h => .inl h, fun h => h⟩
theorem Stp.trans {S S1 S2 : Sto} {l l1 l2 : Cs} (a : Stp S l S1 l1) (b : Stp S1 l1 S2 l2) : Stp S l S2 l2 :=
  ⟨b.at_, Nat.le_trans a.len b.len, fun i h hi => (b.fr i (Nat.lt_of_lt_of_le h a.len) fun q => (a.fp i q).elim hi fun z => absurd h (by omega)).trans (a.fr i h hi),
    fun x hx => (b.fp x hx).elim (a.fp x) fun z => .inr (Nat.le_trans a.len z), fun h => b.nl (a.nl h)⟩
theorem map_fst_set {l : Cs} {k a : Nat} {c c' : Cell} (h : l[k]? = some (a, c)) : (l.set k (a, c')).map (·.1) = l.map (·.1) := by
  rw [List.map_set]
  obtain ⟨h1, h2⟩ := List.getElem?_eq_some_iff.mp h
  refine List.ext_getElem? fun i => ?_
  rw [List.getElem?_set]
  split
  · rename_i q
    subst q
    rw [if_pos (by rw [List.length_map]; exact h1), List.getElem?_map, h] <;> rfl
  · rfl
theorem all_set {S : Sto} {a : Nat} {c : Cell} (h : S.all notLok = true) (hc : notLok c = true) : (S.set a c).all notLok = true :=
  List.all_eq_true.mpr fun x hx => (List.mem_or_eq_of_mem_set hx).elim (List.all_eq_true.mp h x) fun e => by rw [e]; exact hc
/-- a cell is written -/
theorem Stp.set {S : Sto} {l : Cs} (A : AtS S l) (k : Nat) {a : Nat} {c : Cell} (c' : Cell) (h : l[k]? = some (a, c) := by rfl) (hc : notLok c' = true := by rfl) : Stp S l (S.set a c') (l.set k (a, c')) := by
  have hl := A.lt (a := a) (List.mem_map.mpr ⟨_, List.mem_of_getElem? h, rfl⟩)
  have hk := (List.getElem?_eq_some_iff.mp h).1
  refine ⟨⟨by rw [map_fst_set h]; exact A.nd, fun p hp => ?_⟩, by rw [List.length_set]; exact Nat.le_refl _, fun i _ hi => ?_, fun x hx => .inl (by rw [map_fst_set h] at hx; exact hx), fun q => all_set q hc⟩
  · obtain ⟨i, hi⟩ := List.getElem?_of_mem hp
    rw [List.getElem?_set] at hi
    split at hi
    · rename_i q
      subst q
      have hi := Option.some.inj hi
      rw [← hi]
      exact List.getElem?_set_self hl
    · rename_i q
      have hne : a ≠ p.1 := fun e => by
        have n := List.pairwise_iff_getElem.mp A.nd
        have i1 := (List.getElem?_eq_some_iff.mp hi).1
        have e1 : (l.map (·.1))[k]? = some a := by rw [List.getElem?_map, h] <;> rfl
        have e2 : (l.map (·.1))[i]? = some p.1 := by rw [List.getElem?_map, hi] <;> rfl
        obtain ⟨g1, g2⟩ := List.getElem?_eq_some_iff.mp e1
        obtain ⟨g3, g4⟩ := List.getElem?_eq_some_iff.mp e2
        rcases Nat.lt_or_gt_of_ne q with z | z
        · exact n k i g1 g3 z (by rw [g2, g4]; exact e)
        · exact n i k g3 g1 z (by rw [g2, g4]; exact e.symm)
      rw [List.getElem?_set_ne hne]
      exact A.get p (List.mem_of_getElem? hi)
  · rw [List.getElem?_set_ne fun e => hi (by rw [← e]; exact List.mem_map.mpr ⟨_, List.mem_of_getElem? h, rfl⟩)]
/-- a new cell in the place of one -/
theorem Stp.new {S : Sto} {l : Cs} (A : AtS S l) (k : Nat) (c : Cell) (hc : notLok c = true := by rfl) : Stp S l (S ++ [c]) (l.set k (S.length, c)) := by
  have old : ∀ {a : Nat}, a ∈ l.map (·.1) → (S ++ [c])[a]? = S[a]? := fun {a} h => List.getElem?_append_left (A.lt h)
  refine ⟨⟨?_, fun p hp => ?_⟩, by rw [List.length_append]; omega, fun i h _ => List.getElem?_append_left h, fun x hx => ?_, fun h => by rw [List.all_append, h]; simp [hc]⟩
  · rw [List.map_set]
    refine List.pairwise_iff_getElem.mpr fun i j hi hj hij => ?_
    rw [List.length_set] at hi hj
    have hi' : i < l.length := by rw [List.length_map] at hi; exact hi
    have hj' : j < l.length := by rw [List.length_map] at hj; exact hj
    have lt : ∀ {i : Nat} (h : i < (l.map (·.1)).length), (l.map (·.1))[i]'h < S.length := fun {i} h => A.lt (List.getElem_mem h)
    rw [List.getElem_set, List.getElem_set]
    split
    · split
      · omega
      · exact Nat.ne_of_gt (lt hj)
    · split
      · exact Nat.ne_of_lt (lt hi)
      · exact List.pairwise_iff_getElem.mp A.nd i j hi hj hij
  · rcases List.mem_or_eq_of_mem_set hp with h | h
    · rw [old (List.mem_map_of_mem h)]
      exact A.get p h
    · rw [h]
      rw [List.getElem?_append_right (Nat.le_refl _), Nat.sub_self]
      rfl
  · obtain ⟨p, hp, rfl⟩ := List.mem_map.mp hx
    rcases List.mem_or_eq_of_mem_set hp with h | h
    · exact .inl (List.mem_map_of_mem h)
    · rw [h]
      exact .inr (Nat.le_refl _)
/-- .. behind the others -/
theorem Stp.more {S : Sto} {l : Cs} (A : AtS S l) (c : Cell) (hc : notLok c = true := by rfl) : Stp S l (S ++ [c]) (l ++ [(S.length, c)]) := by
  refine ⟨⟨?_, fun p hp => ?_⟩, by rw [List.length_append]; omega, fun i h _ => List.getElem?_append_left h, fun x hx => ?_, fun h => by rw [List.all_append, h]; simp [hc]⟩
  · rw [List.map_append]
    refine List.nodup_append.mpr ⟨A.nd, List.nodup_cons.mpr ⟨List.not_mem_nil, List.nodup_nil⟩, fun a ha b hb e => ?_⟩
    have := A.lt ha
    rw [List.mem_singleton.mp hb] at e
    have e : a = S.length := e
    omega
  · rcases List.mem_append.mp hp with h | h
    · rw [List.getElem?_append_left (A.lt (List.mem_map_of_mem h))]
      exact A.get p h
    · rw [List.mem_singleton.mp h]
      rw [List.getElem?_append_right (Nat.le_refl _), Nat.sub_self]
      rfl
  · rw [List.map_append] at hx
    rcases List.mem_append.mp hx with h | h
    · exact .inl h
    · rw [List.mem_singleton.mp h]
      exact .inr (Nat.le_refl _)
theorem Stp.junk {S : Sto} {l : Cs} (A : AtS S l) {T : Sto} (hT : T.all notLok = true) : Stp S l (S ++ T) l :=
  ⟨A.ext fun a ha => List.getElem?_append_left (A.lt ha), by rw [List.length_append]; omega, fun i h _ => List.getElem?_append_left h, fun _ h => .inl h, fun h => by rw [List.all_append, h, hT] <;> rfl⟩
theorem AtS.ne {S : Sto} {l : Cs} (A : AtS S l) (i j : Nat) {a b : Nat} {c d : Cell} (hi : l[i]? = some (a, c) := by rfl) (hj : l[j]? = some (b, d) := by rfl) (h : i ≠ j := by decide) : a ≠ b := fun e => by
  have e1 : (l.map (·.1))[i]? = some a := by rw [List.getElem?_map, hi] <;> rfl
  have e2 : (l.map (·.1))[j]? = some b := by rw [List.getElem?_map, hj] <;> rfl
  obtain ⟨g1, g2⟩ := List.getElem?_eq_some_iff.mp e1
  obtain ⟨g3, g4⟩ := List.getElem?_eq_some_iff.mp e2
  rcases Nat.lt_or_gt_of_ne h with z | z
  · exact List.pairwise_iff_getElem.mp A.nd i j g1 g3 z (by rw [g2, g4]; exact e)
  · exact List.pairwise_iff_getElem.mp A.nd j i g3 g1 z (by rw [g2, g4]; exact e.symm)
/-- others' cells -/
theorem Stp.other {S S' : Sto} {l l' m : Cs} (T : Stp S l S' l') (B : AtS S m) (h : ∀ a ∈ m.map (·.1), a ∉ l.map (·.1)) : AtS S' m := B.ext fun a ha => T.fr a (B.lt ha) (h a ha)
theorem Stp.apart {S S' : Sto} {l l' m : Cs} (T : Stp S l S' l') (B : AtS S m) (h : ∀ a ∈ m.map (·.1), a ∉ l.map (·.1)) : ∀ a ∈ m.map (·.1), a ∉ l'.map (·.1) := fun a ha q =>
  (T.fp a q).elim (h a ha) fun z => absurd (B.lt ha) (by omega)
theorem Stp.of_eq {S S' : Sto} {l l' m : Cs} (T : Stp S l S' l') (h : l' = m) : Stp S l S' m := by rw [← h]; exact T
/-- what lies beside stays too -/
theorem Stp.sub {S S' : Sto} {l l' m : Cs} (T : Stp S l S' l') (A : AtS S (l ++ m)) : Stp S (l ++ m) S' (l' ++ m) := by
  have nd := A.nd
  rw [List.map_append] at nd
  obtain ⟨n1, n2, n3⟩ := List.nodup_append.mp nd
  have B : AtS S m := ⟨n2, fun p hp => A.get p (List.mem_append_right _ hp)⟩
  have ap : ∀ a ∈ m.map (·.1), a ∉ l.map (·.1) := fun a ha q => n3 a q a ha rfl
  have B' := T.other B ap
  refine ⟨⟨?_, fun p hp => ?_⟩, T.len, fun i h hi => T.fr i h fun q => hi (by rw [List.map_append]; exact List.mem_append_left _ q), fun a ha => ?_, T.nl⟩
  · rw [List.map_append]
    exact List.nodup_append.mpr ⟨T.at_.nd, n2, fun a ha b hb e => T.apart B ap b hb (by rw [← e]; exact ha)⟩
  · rcases List.mem_append.mp hp with h | h
    · exact T.at_.get p h
    · exact B'.get p h
  · rw [List.map_append] at ha ⊢
    rcases List.mem_append.mp ha with h | h
    · exact (T.fp a h).imp (List.mem_append_left _) id
    · exact .inl (List.mem_append_right _ h)
theorem Stp.beside {S S' : Sto} {m l' : Cs} (T : Stp S [] S' l') (A : AtS S m) : Stp S m S' (m ++ l') := by
  have A' : AtS S ([] ++ m) := A
  have T' := T.sub A'
  have B := T'.at_
  refine ⟨⟨?_, fun p hp => B.get p (List.mem_append.mpr (List.mem_append.mp hp).symm)⟩, T.len, fun i h hi => T.fr i h (fun q => by cases q), fun x hx => ?_, T.nl⟩
  · have := B.nd
    rw [List.map_append] at this ⊢
    obtain ⟨n1, n2, n3⟩ := List.nodup_append.mp this
    exact List.nodup_append.mpr ⟨n2, n1, fun a ha b hb e => n3 b hb a ha e.symm⟩
  · rw [List.map_append] at hx
    rcases List.mem_append.mp hx with h | h
    · exact .inl h
    · rcases T.fp x h with q | q
      · cases q
      · exact .inr q
/-! ### dicts as lists of pairs -/
section
variable {κ κ' α β : Type} [DecidableEq κ] [DecidableEq κ']
def agt : List (κ × α) → κ → Option α
  | [], _ => none
  | p :: l, k => if p.1 = k then some p.2 else agt l k
def ahas (l : List (κ × α)) (k : κ) : Bool := l.any fun p => decide (p.1 = k)
def apt (l : List (κ × α)) (k : κ) (v : α) : List (κ × α) := if ahas l k = true then l.map fun p => if p.1 = k then (p.1, v) else p else l ++ [(k, v)]
theorem agt_cons {p : κ × α} {l : List (κ × α)} {k : κ} : agt (p :: l) k = if p.1 = k then some p.2 else agt l k := rfl
theorem ahas_cons {p : κ × α} {l : List (κ × α)} {k : κ} : ahas (p :: l) k = (decide (p.1 = k) || ahas l k) := rfl
theorem agt_none {l : List (κ × α)} {k : κ} : agt l k = none ↔ ahas l k = false := by
  induction l with
  | nil => simp [agt, ahas]
  | cons p l ih =>
    rw [agt_cons, ahas_cons]
    by_cases q : p.1 = k
    · simp [q]
    · rw [if_neg q, ih]
      simp [q]
theorem agt_app {l m : List (κ × α)} {k : κ} : agt (l ++ m) k = (agt l k).or (agt m k) := by
  induction l with
  | nil => simp [agt]
  | cons p l ih =>
    rw [List.cons_append, agt_cons, agt_cons]
    by_cases q : p.1 = k
    · simp [q]
    · rw [if_neg q, if_neg q, ih]
theorem agt_apt {l : List (κ × α)} {k k' : κ} {v : α} : agt (apt l k v) k' = if k = k' then some v else agt l k' := by
  unfold apt
  by_cases q : ahas l k = true
  · rw [if_pos q]
    have key : ∀ l : List (κ × α), agt (l.map fun p => if p.1 = k then (p.1, v) else p) k' = if k = k' then (if ahas l k = true then some v else none) else agt l k' := fun l => by
      induction l with
      | nil => simp [agt, ahas]
      | cons p l ih =>
        rw [List.map_cons, agt_cons, agt_cons, ahas_cons, ih]
        by_cases z : p.1 = k
        · by_cases z2 : k = k'
          · simp [z, z2]
          · have : ¬ p.1 = k' := fun e => z2 (z.symm.trans e)
            rw [if_pos z]
            simp [z2, this]
        · rw [if_neg z]
          by_cases z2 : k = k'
          · subst z2
            simp [z]
          · simp [z2]
    rw [key l, q]
    simp
  · rw [if_neg q, agt_app]
    by_cases z : k = k'
    · subst z
      rw [if_pos rfl, agt_none.mpr (Bool.eq_false_iff.mpr q)]
      simp [agt]
    · rw [if_neg z]
      simp [agt, z]
theorem apt_len {l : List (κ × α)} {k : κ} {v : α} : (apt l k v).length ≤ l.length + 1 := by
  unfold apt
  split
  · rw [List.length_map]
    omega
  · rw [List.length_append] <;> simp
theorem apt_keys {l : List (κ × α)} {k : κ} {v : α} (h : ahas l k = true) : (apt l k v).map (·.1) = l.map (·.1) := by
  unfold apt
  rw [if_pos h, List.map_map]
  refine List.map_congr_left fun p _ => ?_
  show (if p.1 = k then (p.1, v) else p).1 = p.1
  split <;> rfl
theorem ahas_of {l : List (κ × α)} {k : κ} (h : k ∈ l.map (·.1)) : ahas l k = true := by
  obtain ⟨p, hp, rfl⟩ := List.mem_map.mp h
  exact List.any_eq_true.mpr ⟨p, hp, decide_eq_true rfl⟩
theorem ahas_iff {l : List (κ × α)} {k : κ} : ahas l k = true ↔ k ∈ l.map (·.1) := by
  refine ⟨fun h => ?_, ahas_of⟩
  obtain ⟨p, hp, e⟩ := List.any_eq_true.mp h
  exact List.mem_map.mpr ⟨p, hp, of_decide_eq_true e⟩
theorem apt_mem {P : κ × α → Prop} {l : List (κ × α)} {k : κ} {v : α} (h : ∀ p ∈ l, P p) (hv : P (k, v)) : ∀ p ∈ apt l k v, P p := by
  intro p hp
  unfold apt at hp
  split at hp
  · obtain ⟨q, hq, rfl⟩ := List.mem_map.mp hp
    split
    · rename_i e
      rw [e]
      exact hv
    · exact h q hq
  · rcases List.mem_append.mp hp with e | e
    · exact h p e
    · rw [List.mem_singleton.mp e]
      exact hv
theorem agt_mem {l : List (κ × α)} {k : κ} {v : α} (h : agt l k = some v) : (k, v) ∈ l := by
  induction l with
  | nil => cases h
  | cons p l ih =>
    unfold agt at h
    split at h
    · rename_i e
      cases h
      rw [← e]
      exact List.mem_cons_self
    · exact List.mem_cons_of_mem _ (ih h)
theorem apt_nd {l : List (κ × α)} {k : κ} {v : α} (h : (l.map (·.1)).Nodup) : ((apt l k v).map (·.1)).Nodup := by
  by_cases q : ahas l k = true
  · rw [apt_keys q]
    exact h
  · unfold apt
    rw [if_neg q, List.map_append]
    refine List.nodup_append.mpr ⟨h, List.nodup_cons.mpr ⟨List.not_mem_nil, List.nodup_nil⟩, fun a ha b hb e => ?_⟩
    rw [List.mem_singleton.mp hb] at e
    have e : a = k := e
    rw [e] at ha
    exact q (ahas_of ha)
variable {e : κ → κ'} {f : α → DV}
theorem has_al (he : ∀ a b, e a = e b → a = b) {l : List (κ × α)} {k : κ} : hasK (l.map fun p => e p.1) (e k) = ahas l k := by
  induction l with
  | nil => rfl
  | cons p l ih =>
    unfold hasK ahas at *
    rw [List.map_cons, List.any_cons, List.any_cons, ih]
    congr 1
    exact decide_eq_decide.mpr ⟨he _ _, fun h => by rw [h]⟩
theorem putKs_al (he : ∀ a b, e a = e b → a = b) {l : List (κ × α)} {k : κ} {v : α} : putKs (l.map fun p => e p.1) (e k) = (apt l k v).map fun p => e p.1 := by
  unfold putKs
  rw [has_al he]
  by_cases q : ahas l k = true
  · rw [if_pos q]
    have := congrArg (List.map e) (apt_keys (v := v) q)
    rw [List.map_map, List.map_map] at this
    exact this.symm
  · rw [if_neg q]
    unfold apt
    rw [if_neg q, List.map_append]
    rfl
theorem putVs_al (he : ∀ a b, e a = e b → a = b) {l : List (κ × α)} {k : κ} {v : α} : putVs (l.map fun p => e p.1) (l.map fun p => f p.2) (e k) (f v) = (apt l k v).map fun p => f p.2 := by
  unfold putVs
  rw [has_al he]
  unfold apt
  by_cases q : ahas l k = true
  · rw [if_pos q, if_pos q, List.map_map]
    clear q
    induction l with
    | nil => rfl
    | cons p l ih =>
      rw [List.map_cons, List.map_cons, List.map_cons]
      unfold rpG
      rw [ih]
      congr 1
      by_cases z : p.1 = k
      · rw [if_pos (by rw [z])]
        show _ = f (if p.1 = k then (p.1, v) else p).2
        rw [if_pos z]
      · rw [if_neg fun h => z (he _ _ h)]
        show _ = f (if p.1 = k then (p.1, v) else p).2
        rw [if_neg z]
  · rw [if_neg q, if_neg q, List.map_append]
    rfl
theorem lkD_al (he : ∀ a b, e a = e b → a = b) {l : List (κ × α)} {k : κ} : lkD (l.map fun p => e p.1) (l.map fun p => f p.2) (e k) = (agt l k).map f := by
  induction l with
  | nil => rfl
  | cons p l ih =>
    rw [List.map_cons, List.map_cons]
    unfold lkD agt
    by_cases z : p.1 = k
    · rw [if_pos (by rw [z]), if_pos z] <;> rfl
    · rw [if_neg fun h => z (he _ _ h), if_neg z]
      exact ih
end
abbrev Pl := Str × Nat
abbrev kS (x : Str) : Key := .inr x
abbrev kN (n : Nat) : Key := .inl (n : Int)
abbrev kP (p : Pl) : List Key := [.inr p.1, .inl (p.2 : Int)]
theorem kS_inj (a b : Str) (h : kS a = kS b) : a = b := Sum.inr.inj h
theorem kP_inj (a b : Pl) (h : kP a = kP b) : a = b := by
  obtain ⟨a1, a2⟩ := a
  obtain ⟨b1, b2⟩ := b
  have h1 := List.cons.inj h
  have h2 := Sum.inr.inj h1.1
  have h3 := Sum.inl.inj (List.cons.inj h1.2).1
  have h2 : a1 = b1 := h2
  have h3 : (a2 : Int) = (b2 : Int) := h3
  rw [h2, show a2 = b2 by omega]
def dkS {α : Type} (f : α → DV) (l : List (Str × α)) : Cell := .dik (l.map fun p => kS p.1) (l.map fun p => f p.2)
def dkN {α : Type} (f : α → DV) (l : List (Nat × α)) : Cell := .dik (l.map fun p => kN p.1) (l.map fun p => f p.2)
def dkP {α : Type} (f : α → DV) (l : List (Pl × α)) : Cell := .dit (l.map fun p => kP p.1) (l.map fun p => f p.2)
abbrev plD (p : Pl) : DV := .tup [.str p.1, .int (p.2 : Nat)]
section
variable {α : Type} {f : α → DV} {S : Sto} {n : Nat}
theorem setI_S {l : List (Str × α)} {x : Str} {v : α} (h : S[n]? = some (dkS f l)) (hz : l.length < 16777216) : setI (.loc n) (.str x) (f v) S = some (S.set n (dkS f (apt l x v))) := by
  rw [setI_dik h (by rw [List.length_map]; exact hz)]
  unfold dkS
  rw [← putKs_al (v := v) kS_inj, ← putVs_al (f := f) kS_inj]
theorem setI_P {l : List (Pl × α)} {x : Pl} {v : α} (h : S[n]? = some (dkP f l)) (hz : l.length < 16777216) : setI (.loc n) (plD x) (f v) S = some (S.set n (dkP f (apt l x v))) := by
  have e : setI (.loc n) (plD x) (f v) S = some (S.set n (.dit (putKs (l.map fun p => kP p.1) (kP x)) (putVs (l.map fun p => kP p.1) (l.map fun p => f p.2) (kP x) (f v)))) := by
    unfold setI
    simp only [h, dkP, keyT, keysD, keyD]
    rw [if_pos (by rw [List.length_map, size_eq]; exact hz)]
  rw [e]
  unfold dkP
  rw [← putKs_al (v := v) kP_inj, ← putVs_al (f := f) kP_inj]
theorem getD_S {l : List (Str × α)} {x : Str} (h : S[n]? = some (dkS f l)) : getD S (.loc n) (.str x) = some ((agt l x).map f) := by
  rw [getD_dik h]
  exact congrArg some (lkD_al kS_inj)
theorem getD_P {l : List (Pl × α)} {x : Pl} (h : S[n]? = some (dkP f l)) : getD S (.loc n) (plD x) = some ((agt l x).map f) := by
  have e : getD S (.loc n) (plD x) = some (lkD (l.map fun p => kP p.1) (l.map fun p => f p.2) (kP x)) := by
    unfold getD asK asKT keyD keyT keysD
    simp only [h, dkP, keyD, keysD]
  rw [e]
  exact congrArg some (lkD_al kP_inj)
theorem getD_PL {l : List (Pl × α)} {x : Pl} (h : S[n]? = some (.lokt (l.map fun p => kP p.1) (l.map fun p => f p.2))) : getD S (.loc n) (plD x) = some ((agt l x).map f) := by
  have e : getD S (.loc n) (plD x) = some (lkD (l.map fun p => kP p.1) (l.map fun p => f p.2) (kP x)) := by
    unfold getD asK asKT keyD keyT keysD
    simp only [h, keyD, keysD]
  rw [e]
  exact congrArg some (lkD_al kP_inj)
theorem asL_ndik {ks : List Key} {vs : List DV} (h : S[n]? = some (.dik ks vs)) : asL S (.loc n) = none := by
  unfold asL
  simp only [h]
theorem asL_ndit {ks : List (List Key)} {vs : List DV} (h : S[n]? = some (.dit ks vs)) : asL S (.loc n) = none := by
  unfold asL
  simp only [h]
theorem asL_nlokt {ks : List (List Key)} {vs : List DV} (h : S[n]? = some (.lokt ks vs)) : asL S (.loc n) = none := by
  unfold asL
  simp only [h]
theorem ix_of {k d : DV} (h1 : asL S (.loc n) = none) (h : getD S (.loc n) k = some (some d)) : pIx (.loc n) k S = some (d, S) := by
  cases k <;> (unfold pIx; simp only [h1, h])
end
end Dn

/-! the house in plain Lean -/
namespace Dn
open PySem PySem.Spec PyProof.Rows L2
abbrev Thing := Str × Int × Bool
abbrev thD (c : Thing) : DV := .tup [.str c.1, .int c.2.1, .bl c.2.2]
structure Hst where
  rows : List PRow
  cells : List Thing
  shelves : List Thing
  keeps : List (Nat × List Str)
  beg : List Str
  coming : List Int
structure Pg where
  row : Nat
  done : Nat
  hears : Nat
  says : Nat
  held : List (Str × Int)
  turned : List (Pl × Int)
inductive Dd where
  | page (r : Nat) | box (x : Str) (v : Int) | turn (p : Pl) (v : Int) | face | home (p : Pl) (v : Int)
inductive Ph where
  | up (k : Nat) | go (r : Nat) | keep (r : Nat) (l : List Dd) (k : Nat) | rest
structure Hs where
  dust : Int
  held : List (Str × Int)
  log : List (Pl × Int)
  done : Nat
  hears : Nat
  says : Nat
  ph : Ph
  home : List (Pl × Int)
  p0 : Pg
  p1 : Pg
  front : Bool
  fin : Option Int
  bn : List (Nat × Int)
  rent : Bool
def Hst.twL (Z : Hst) : List (Str × Bool) := Z.shelves.foldl (fun l c => apt l c.1 c.2.2) (Z.cells.foldl (fun l c => apt l c.1 c.2.2) [])
def Hst.szL (Z : Hst) : List (Str × Int) := Z.shelves.foldl (fun l c => apt l c.1 c.2.1) []
def shelfL (l : List (Pl × Int)) (c : Thing) : List (Pl × Int) := (List.range c.2.1.toNat).foldl (fun l k => apt l (c.1, k) 0) l
def Hst.homeL (Z : Hst) : List (Pl × Int) := Z.shelves.foldl shelfL (Z.cells.foldl (fun l c => apt l (c.1, 0) c.2.1) [])
def Hst.homeK (Z : Hst) : List Pl := Z.homeL.map (·.1)
def Hst.keepsL (Z : Hst) : List (Nat × List Str) := Z.keeps.foldl (fun l k => apt l k.1 k.2) []
def Hst.twin (Z : Hst) (n : Str) : Bool := (agt Z.twL n).getD false
def Hst.size (Z : Hst) (n : Str) : Int := (agt Z.szL n).getD 1
def Hs.worth (h : Hs) : Atm → Int
  | .n i => i
  | .x s => (agt h.held s).getD h.dust
def Hs.place (Z : Hst) (h : Hs) (n : Str) (a : Atm) : Nat := (h.worth a % Z.size n).toNat
def Hs.homeV (h : Hs) (p : Pl) : Int := (agt h.home p).getD 0
def Hs.seen (Z : Hst) (h : Hs) (p : Pl) : Int := if Z.twin p.1 = true then (agt h.log p).getD (h.homeV p) else h.homeV p
def Hs.written (Z : Hst) (h : Hs) (p : Pl) (v : Int) : Hs := if Z.twin p.1 = true then { h with log := apt h.log p v } else { h with home := apt h.home p v }
def Hs.out (h : Hs) (x : Str) (v : Int) : Hs := { h with held := apt h.held x v }
def Hs.say (h : Hs) (v : Int) : Hs := match agt h.bn h.says with
  | none => { h with bn := apt h.bn h.says v, says := h.says + 1 }
  | some u => { h with rent := h.rent || !decide (u = v), says := h.says + 1 }
def Hs.row (Z : Hst) (h : Hs) : PRow → Hs
  | .say a => h.say (h.worth a)
  | .copy x a => h.out x (h.worth a)
  | .op x s a b => h.out x (valS s (h.worth a) (h.worth b))
  | .load x c => h.out x (h.seen Z (c, 0))
  | .store c a => h.written Z (c, 0) (h.worth a)
  | .take x s a => h.out x (h.seen Z (s, h.place Z s a))
  | .lay s a b => h.written Z (s, h.place Z s a) (h.worth b)
  | .hear x => { h.out x (Z.coming.getD h.hears 0) with hears := h.hears + 1 }
  | .ifr _ _ => h
  | .go _ => h
  | .endr a => { h with fin := some (h.worth a) }
def Hs.next (h : Hs) (i : Nat) : PRow → Nat
  | .ifr a n => if h.worth a = 0 then i + 1 else n
  | .go n => n
  | _ => i + 1
def Hs.page (h : Hs) (b : Bool) : Pg := if b = true then h.p1 else h.p0
def Hs.back (h : Hs) : Pg := h.page (!h.front)
def Hs.setBack (h : Hs) (p : Pg) : Hs := if h.front = true then { h with p0 := p } else { h with p1 := p }
def Hs.deed (h : Hs) : Dd → Hs
  | .page r => h.setBack ⟨r, h.done, h.hears, h.says, [], []⟩
  | .box x v => h.setBack { h.back with held := h.back.held ++ [(x, v)] }
  | .turn p v => h.setBack { h.back with turned := h.back.turned ++ [(p, v)] }
  | .face => { h with front := !h.front }
  | .home p v => { h with home := apt h.home p v }
def Hs.small (h : Hs) (r : Nat) (bs : List Str) : List Dd := Dd.page r :: (bs.map fun x => Dd.box x (h.worth (.x x))) ++ (h.log.map fun p => Dd.turn p.1 p.2) ++ [Dd.face] ++ h.log.map fun p => Dd.home p.1 p.2
def dictL (l : List (Str × Int)) : List (Str × Int) := l.foldl (fun l q => apt l q.1 q.2) []
def Hs.comeUp (h : Hs) (p : Pg) : Hs := { h with held := dictL p.held, done := p.done, hears := p.hears, says := p.says }
def isEnd : PRow → Bool
  | .endr _ => true
  | _ => false
/-- behind a row -/
def Hs.come (Z : Hst) (h : Hs) (t : Nat) : Hs := match agt Z.keepsL t with
  | none => { h with ph := .go t }
  | some bs => { h with ph := .keep t (h.small t bs) 0 }
def Hs.step (Z : Hst) (h : Hs) : Hs := match h.ph with
  | .rest => h
  | .up k => (match (h.page h.front).turned[k]? with
    | some q => { h with home := apt h.home q.1 q.2, ph := .up (k + 1) }
    | none => { h.comeUp (h.page h.front) with ph := .go (h.page h.front).row })
  | .go i => (match Z.rows[i]? with
    | none => h
    | some r => if isEnd r = true then { Hs.row Z { h with done := h.done + 1 } r with ph := .rest } else (Hs.row Z { h with done := h.done + 1 } r).come Z (h.next i r))
  | .keep r l k => (match l[k]? with
    | none => h
    | some d => if k + 1 < l.length then { h.deed d with ph := .keep r l (k + 1) } else { h.deed d with log := [], ph := .go r })
def pg0 (b : List Str) : Pg := ⟨0, 0, 0, 0, b.map fun x => (x, 0), []⟩
def Hst.init (Z : Hst) : Hs := ⟨0, [], [], 0, 0, 0, .up 0, Z.homeL, pg0 Z.beg, pg0 [], false, none, [], false⟩
/-! ### what is in order -/
def Hst.IsP (Z : Hst) (p : Pl) : Prop := p ∈ Z.homeK
structure Hst.CellOk (Z : Hst) (c : Str) : Prop where
  tw : ahas Z.twL c = true
  pl : Z.IsP (c, 0)
structure Hst.ShelfOk (Z : Hst) (s : Str) : Prop where
  tw : ahas Z.twL s = true
  sz : agt Z.szL s = some (Z.size s)
  z0 : 0 < Z.size s
  z1 : Z.size s ≤ 1000
  pl : ∀ k : Nat, (k : Int) < Z.size s → Z.IsP (s, k)
def Hst.RowOk (Z : Hst) : PRow → Prop
  | .say a => a.Ok
  | .copy _ a => a.Ok
  | .op _ s a b => isSign s ∧ a.Ok ∧ b.Ok
  | .load _ c => Z.CellOk c
  | .store c a => Z.CellOk c ∧ a.Ok
  | .take _ s a => Z.ShelfOk s ∧ a.Ok
  | .lay s a b => Z.ShelfOk s ∧ a.Ok ∧ b.Ok
  | .hear _ => True
  | .ifr a _ => a.Ok
  | .go _ => True
  | .endr a => a.Ok
structure Hst.Ok (Z : Hst) : Prop where
  r : ∀ r ∈ Z.rows, Z.RowOk r
  led : ∀ (i : Nat) (r : PRow), Z.rows[i]? = some r → ∀ t ∈ r.led i, t < Z.rows.length
  n0 : 0 < Z.rows.length
  n1 : Z.rows.length ≤ 1000
  co : ∀ v ∈ Z.coming, In40 v
  cz : Z.coming.length ≤ 1000
  ks : ∀ k ∈ Z.keeps, k.2.length ≤ 1000
  kz : Z.keeps.length ≤ 1000
  bz : Z.beg.length ≤ 1000
  hm : ∀ p ∈ Z.homeL, In40 p.2
  hz : Z.homeL.length ≤ 1000
/-- all that is asked of the numbers of things -/
structure Hst.Zs (Z : Hst) : Prop where
  c : Z.cells.length ≤ 1000
  s : Z.shelves.length ≤ 1000
  n : ∀ c ∈ Z.shelves, 0 ≤ c.2.1 ∧ c.2.1 ≤ 1000
def vOk {κ : Type} (l : List (κ × Int)) : Prop := ∀ p ∈ l, In40 p.2
structure Pg.Ok (Z : Hst) (N : Nat) (p : Pg) : Prop where
  h : vOk p.held
  t : vOk p.turned
  tp : ∀ q ∈ p.turned, Z.IsP q.1
  r : p.row < Z.rows.length
  hz : p.held.length ≤ N
  tz : p.turned.length ≤ N
def Dd.Ok (Z : Hst) : Dd → Prop
  | .page r => r < Z.rows.length
  | .box _ v => In40 v
  | .turn p v => Z.IsP p ∧ In40 v
  | .face => True
  | .home p v => Z.IsP p ∧ In40 v
def Ph.Ok (Z : Hst) (N : Nat) : Ph → Prop
  | .up _ => True
  | .go r => r < Z.rows.length
  | .keep r l k => r < Z.rows.length ∧ k < l.length ∧ l.length ≤ 2 * N + 1002 ∧ ∀ d ∈ l, d.Ok Z
  | .rest => True
structure Hs.Ok (Z : Hst) (N : Nat) (h : Hs) : Prop where
  du : In40 h.dust
  he : vOk h.held
  lo : vOk h.log
  lp : ∀ q ∈ h.log, Z.IsP q.1
  ln : (h.log.map (·.1)).Nodup
  hm : vOk h.home
  hk : h.home.map (·.1) = Z.homeK
  p0 : h.p0.Ok Z N
  p1 : h.p1.Ok Z N
  ph : h.ph.Ok Z N
  hz : h.held.length ≤ N
  lz : h.log.length ≤ N
  bz : h.bn.length ≤ N
  bv : vOk h.bn
theorem Pg.Ok.mono {Z : Hst} {N M : Nat} {p : Pg} (O : p.Ok Z N) (h : N ≤ M) : p.Ok Z M := ⟨O.h, O.t, O.tp, O.r, Nat.le_trans O.hz h, Nat.le_trans O.tz h⟩
theorem Ph.Ok.mono {Z : Hst} {N M : Nat} {p : Ph} (O : p.Ok Z N) (h : N ≤ M) : p.Ok Z M := by
  cases p with
  | up k => exact trivial
  | go r => exact O
  | keep r l k =>
    obtain ⟨a, b, c, d⟩ := O
    exact ⟨a, b, by omega, d⟩
  | rest => exact trivial
theorem Hs.Ok.mono {Z : Hst} {N M : Nat} {h : Hs} (O : h.Ok Z N) (hm : N ≤ M) : h.Ok Z M :=
  ⟨O.du, O.he, O.lo, O.lp, O.ln, O.hm, O.hk, O.p0.mono hm, O.p1.mono hm, O.ph.mono hm, Nat.le_trans O.hz hm, Nat.le_trans O.lz hm, Nat.le_trans O.bz hm, O.bv⟩
theorem vOk_get {κ : Type} [DecidableEq κ] {l : List (κ × Int)} (h : vOk l) {k : κ} {d : Int} (hd : In40 d) : In40 ((agt l k).getD d) := by
  cases e : agt l k with
  | none => exact hd
  | some v => exact h _ (agt_mem e)
theorem vOk_apt {κ : Type} [DecidableEq κ] {l : List (κ × Int)} (h : vOk l) {k : κ} {v : Int} (hv : In40 v) : vOk (apt l k v) := apt_mem (P := fun p => In40 p.2) h hv
theorem isP_apt {Z : Hst} {l : List (Pl × Int)} (h : ∀ q ∈ l, Z.IsP q.1) {p : Pl} {v : Int} (hp : Z.IsP p) : ∀ q ∈ apt l p v, Z.IsP q.1 := apt_mem (P := fun q => Z.IsP q.1) h hp
section
variable {Z : Hst} {N : Nat} {h : Hs}
theorem Hs.Ok.worth (O : h.Ok Z N) {a : Atm} (ha : a.Ok) : In40 (h.worth a) := by
  cases a with
  | n i => exact ha
  | x s => exact vOk_get O.he O.du
theorem Hs.Ok.homeV (O : h.Ok Z N) (p : Pl) : In40 (h.homeV p) := vOk_get O.hm in0
theorem Hs.Ok.home (O : h.Ok Z N) {p : Pl} (hp : Z.IsP p) : agt h.home p = some (h.homeV p) := by
  unfold Hs.homeV
  cases e : agt h.home p with
  | some v => rfl
  | none =>
    have := agt_none.mp e
    rw [ahas_of (by rw [O.hk]; exact hp)] at this
    cases this
theorem Hs.Ok.seen (O : h.Ok Z N) (p : Pl) : In40 (h.seen Z p) := by
  unfold Hs.seen
  split
  · exact vOk_get O.lo (O.homeV p)
  · exact O.homeV p
theorem place_lt (O : Z.ShelfOk s) {a : Atm} : ((h.place Z s a : Nat) : Int) = h.worth a % Z.size s ∧ ((h.place Z s a : Nat) : Int) < Z.size s := by
  have z0 := O.z0
  have h1 := Int.emod_nonneg (h.worth a) (b := Z.size s) (by omega)
  have h2 := Int.emod_lt_of_pos (h.worth a) O.z0
  unfold Hs.place
  omega
theorem hk_apt (O : h.Ok Z N) {p : Pl} {v : Int} (hp : Z.IsP p) : (apt h.home p v).map (·.1) = Z.homeK := by
  rw [apt_keys (ahas_of (by rw [O.hk]; exact hp))]
  exact O.hk
theorem Hs.Ok.written (O : h.Ok Z N) {p : Pl} {v : Int} (hp : Z.IsP p) (hv : In40 v) : (h.written Z p v).Ok Z (N + 1) := by
  have O' := O.mono (Nat.le_succ N)
  have lz := O.lz
  unfold Hs.written
  split
  · exact ⟨O'.du, O'.he, vOk_apt O.lo hv, isP_apt O.lp hp, apt_nd O.ln, O'.hm, O'.hk, O'.p0, O'.p1, O'.ph, O'.hz, Nat.le_trans apt_len (by omega), O'.bz, O'.bv⟩
  · exact ⟨O'.du, O'.he, O'.lo, O'.lp, O'.ln, vOk_apt O.hm hv, hk_apt O hp, O'.p0, O'.p1, O'.ph, O'.hz, O'.lz, O'.bz, O'.bv⟩
theorem Hs.Ok.out (O : h.Ok Z N) {x : Str} {v : Int} (hv : In40 v) : (h.out x v).Ok Z (N + 1) := by
  have O' := O.mono (Nat.le_succ N)
  have hz := O.hz
  exact ⟨O'.du, vOk_apt O.he hv, O'.lo, O'.lp, O'.ln, O'.hm, O'.hk, O'.p0, O'.p1, O'.ph, Nat.le_trans apt_len (by omega), O'.lz, O'.bz, O'.bv⟩
theorem Hs.Ok.say (O : h.Ok Z N) {v : Int} (hv : In40 v) : (h.say v).Ok Z (N + 1) := by
  have O' := O.mono (Nat.le_succ N)
  have bz := O.bz
  unfold Hs.say
  split
  · exact ⟨O'.du, O'.he, O'.lo, O'.lp, O'.ln, O'.hm, O'.hk, O'.p0, O'.p1, O'.ph, O'.hz, O'.lz, Nat.le_trans apt_len (by omega), vOk_apt O.bv hv⟩
  · exact ⟨O'.du, O'.he, O'.lo, O'.lp, O'.ln, O'.hm, O'.hk, O'.p0, O'.p1, O'.ph, O'.hz, O'.lz, O'.bz, O'.bv⟩
/-- fields of which nothing is asked -/
theorem Hs.Ok.num (O : h.Ok Z N) (a b c : Nat) (f : Option Int) : ({ h with done := a, hears := b, says := c, fin := f } : Hs).Ok Z N := ⟨O.du, O.he, O.lo, O.lp, O.ln, O.hm, O.hk, O.p0, O.p1, O.ph, O.hz, O.lz, O.bz, O.bv⟩
theorem Hs.Ok.inPh (O : h.Ok Z N) {p : Ph} (hp : p.Ok Z N) : ({ h with ph := p } : Hs).Ok Z N := ⟨O.du, O.he, O.lo, O.lp, O.ln, O.hm, O.hk, O.p0, O.p1, hp, O.hz, O.lz, O.bz, O.bv⟩
theorem Hs.Ok.row (O : h.Ok Z N) (K : Z.Ok) {r : PRow} (hr : Z.RowOk r) : (h.row Z r).Ok Z (N + 1) := by
  cases r with
  | say a => exact O.say (O.worth hr)
  | copy x a => exact O.out (O.worth hr)
  | op x s a b => exact O.out (valS_40 (O.worth hr.2.1) (O.worth hr.2.2))
  | load x c => exact O.out (O.seen _)
  | store c a => exact O.written hr.1.pl (O.worth hr.2)
  | take x s a => exact O.out (O.seen _)
  | lay s a b => exact O.written (hr.1.pl _ (place_lt hr.1).2) (O.worth hr.2.2)
  | hear x =>
    have hv : In40 (Z.coming.getD h.hears 0) := by
      rw [List.getD_eq_getElem?_getD]
      cases e : Z.coming[h.hears]? with
      | none => exact in0
      | some v => exact K.co v (List.mem_of_getElem? e)
    exact (O.out hv).num h.done (h.hears + 1) h.says h.fin
  | ifr a n => exact O.mono (Nat.le_succ N)
  | go n => exact O.mono (Nat.le_succ N)
  | endr a => exact (O.mono (Nat.le_succ N)).num h.done h.hears h.says _
theorem Hs.Ok.page (O : h.Ok Z N) (b : Bool) : (h.page b).Ok Z N := by
  cases b
  · exact O.p0
  · exact O.p1
theorem Hs.Ok.setBack (O : h.Ok Z N) {p : Pg} (hp : p.Ok Z N) : (h.setBack p).Ok Z N := by
  unfold Hs.setBack
  split
  · exact ⟨O.du, O.he, O.lo, O.lp, O.ln, O.hm, O.hk, hp, O.p1, O.ph, O.hz, O.lz, O.bz, O.bv⟩
  · exact ⟨O.du, O.he, O.lo, O.lp, O.ln, O.hm, O.hk, O.p0, hp, O.ph, O.hz, O.lz, O.bz, O.bv⟩
theorem Hs.Ok.deed (O : h.Ok Z N) {d : Dd} (hd : d.Ok Z) : (h.deed d).Ok Z (N + 1) := by
  have O' := O.mono (Nat.le_succ N)
  have B := O.page (!h.front)
  have hz : h.back.held.length ≤ N := B.hz
  have tz : h.back.turned.length ≤ N := B.tz
  cases d with
  | page r => exact O'.setBack ⟨(fun p hp => by cases hp), (fun p hp => by cases hp), (fun p hp => by cases hp), hd, Nat.zero_le _, Nat.zero_le _⟩
  | box x v => exact O'.setBack ⟨fun p hp => (List.mem_append.mp hp).elim (B.h p) fun e => by rw [List.mem_singleton.mp e]; exact hd, B.t, B.tp, B.r, by rw [List.length_append, List.length_singleton]; omega, Nat.le_succ_of_le tz⟩
  | turn p v => exact O'.setBack ⟨B.h, fun q hq => (List.mem_append.mp hq).elim (B.t q) fun e => by rw [List.mem_singleton.mp e]; exact hd.2, fun q hq => (List.mem_append.mp hq).elim (B.tp q) fun e => by rw [List.mem_singleton.mp e]; exact hd.1, B.r, Nat.le_succ_of_le hz, by rw [List.length_append, List.length_singleton]; omega⟩
  | face => exact ⟨O'.du, O'.he, O'.lo, O'.lp, O'.ln, O'.hm, O'.hk, O'.p0, O'.p1, O'.ph, O'.hz, O'.lz, O'.bz, O'.bv⟩
  | home p v => exact ⟨O'.du, O'.he, O'.lo, O'.lp, O'.ln, vOk_apt O.hm hd.2, hk_apt O hd.1, O'.p0, O'.p1, O'.ph, O'.hz, O'.lz, O'.bz, O'.bv⟩
theorem dictL_len : ∀ (l m : List (Str × Int)), (l.foldl (fun l q => apt l q.1 q.2) m).length ≤ m.length + l.length
  | [], m => Nat.le_refl _
  | q :: l, m => by
    have := dictL_len l (apt m q.1 q.2)
    have := apt_len (l := m) (k := q.1) (v := q.2)
    rw [List.foldl_cons, List.length_cons]
    omega
theorem dictL_ok : ∀ (l m : List (Str × Int)), vOk l → vOk m → vOk (l.foldl (fun l q => apt l q.1 q.2) m)
  | [], m, _, hm => hm
  | q :: l, m, hl, hm => dictL_ok l (apt m q.1 q.2) (fun p hp => hl p (List.mem_cons_of_mem _ hp)) (vOk_apt hm (hl q List.mem_cons_self))
theorem keepsL_mem (K : Z.Ok) {t : Nat} {bs : List Str} (e : agt Z.keepsL t = some bs) : (t, bs) ∈ Z.keeps := by
  have key : ∀ (l m : List (Nat × List Str)), (∀ p ∈ l.foldl (fun l k => apt l k.1 k.2) m, p ∈ l ∨ p ∈ m) := fun l => by
    induction l with
    | nil => intro m p hp; exact .inr hp
    | cons k l ih =>
      intro m p hp
      rcases ih _ p hp with h | h
      · exact .inl (List.mem_cons_of_mem _ h)
      · have := apt_mem (P := fun p => p = k ∨ p ∈ m) (l := m) (k := k.1) (v := k.2) (fun q hq => .inr hq) (.inl rfl) p h
        rcases this with e | e
        · rw [e]; exact .inl List.mem_cons_self
        · exact .inr e
  rcases key Z.keeps [] _ (agt_mem e) with h | h
  · exact h
  · cases h
theorem Hs.Ok.small (O : h.Ok Z N) {r : Nat} (hr : r < Z.rows.length) {bs : List Str} : ∀ d ∈ h.small r bs, d.Ok Z := by
  intro d hd
  unfold Hs.small at hd
  rcases List.mem_append.mp hd with hd | hd
  · rcases List.mem_append.mp hd with hd | hd
    · rcases List.mem_append.mp hd with hd | hd
      · rcases List.mem_cons.mp hd with e | hd
        · rw [e]; exact hr
        · obtain ⟨x, _, rfl⟩ := List.mem_map.mp hd
          exact O.worth (a := .x x) trivial
      · obtain ⟨p, hp, rfl⟩ := List.mem_map.mp hd
        exact ⟨O.lp p hp, O.lo p hp⟩
    · rw [List.mem_singleton.mp hd]; exact trivial
  · obtain ⟨p, hp, rfl⟩ := List.mem_map.mp hd
    exact ⟨O.lp p hp, O.lo p hp⟩
theorem small_len {r : Nat} {bs : List Str} : (h.small r bs).length = bs.length + 2 * h.log.length + 2 := by
  unfold Hs.small
  simp only [List.length_append, List.length_cons, List.length_map, List.length_nil]
  omega
theorem next_led {i : Nat} {r : PRow} (he : isEnd r = false) : h.next i r ∈ r.led i := by
  cases r with
  | ifr a n =>
    show (if h.worth a = 0 then i + 1 else n) ∈ [n, i + 1]
    split
    · exact List.mem_cons_of_mem _ List.mem_cons_self
    · exact List.mem_cons_self
  | endr a => cases he
  | _ => exact List.mem_cons_self
theorem Hs.Ok.come (O : h.Ok Z N) (K : Z.Ok) {t : Nat} (ht : t < Z.rows.length) : (h.come Z t).Ok Z N := by
  unfold Hs.come
  split
  · exact O.inPh (p := .go t) ht
  · rename_i bs e
    have := K.ks _ (keepsL_mem K e)
    have := O.lz
    have l := small_len (h := h) (r := t) (bs := bs)
    exact O.inPh (p := .keep t _ 0) ⟨ht, by omega, by simp only at *; omega, O.small ht⟩
theorem Hs.Ok.step (O : h.Ok Z N) (K : Z.Ok) : (h.step Z).Ok Z (N + 1) := by
  have O' := O.mono (Nat.le_succ N)
  unfold Hs.step
  split
  · exact O'
  · rename_i k e
    have B := O.page h.front
    split
    · rename_i q hq
      have hm := List.mem_of_getElem? hq
      exact ⟨O'.du, O'.he, O'.lo, O'.lp, O'.ln, vOk_apt O.hm (B.t q hm), hk_apt O (B.tp q hm), O'.p0, O'.p1, trivial, O'.hz, O'.lz, O'.bz, O'.bv⟩
    · refine ⟨O'.du, dictL_ok _ _ B.h (fun p hp => by cases hp), O'.lo, O'.lp, O'.ln, O'.hm, O'.hk, O'.p0, O'.p1, B.r, ?_, O'.lz, O'.bz, O'.bv⟩
      have := dictL_len (h.page h.front).held []
      have := B.hz
      rw [List.length_nil] at *
      show (dictL (h.page h.front).held).length ≤ N + 1
      unfold dictL
      omega
  · rename_i i e
    split
    · exact O'
    · rename_i r hr
      have R := (O.num (h.done + 1) h.hears h.says h.fin).row K (K.r r (List.mem_of_getElem? hr))
      split
      · exact R.inPh (p := .rest) trivial
      · rename_i he
        exact R.come K (K.led i r hr _ (next_led (Bool.eq_false_iff.mpr he)))
  · rename_i r l k e
    have hp := O.ph
    rw [e] at hp
    obtain ⟨h1, h2, h3, h4⟩ := hp
    split
    · exact O'
    · rename_i d hd
      have D := O.deed (h4 d (List.mem_of_getElem? hd))
      split
      · rename_i q
        exact D.inPh (p := .keep r l (k + 1)) ⟨h1, q, by omega, h4⟩
      · exact ⟨D.du, D.he, (fun p hp => by cases hp), (fun p hp => by cases hp), List.nodup_nil, D.hm, D.hk, D.p0, D.p1, h1, D.hz, Nat.zero_le _, D.bz, D.bv⟩
theorem step_go {i : Nat} {r : PRow} (hp : h.ph = .go i) (hr : Z.rows[i]? = some r) : h.step Z = if isEnd r = true then { Hs.row Z { h with done := h.done + 1 } r with ph := .rest } else (Hs.row Z { h with done := h.done + 1 } r).come Z (h.next i r) := by
  unfold Hs.step
  split
  · rename_i e; rw [hp] at e; cases e
  · rename_i e; rw [hp] at e; cases e
  · rename_i e; rw [hp] at e; cases e
    rw [hr]
  · rename_i e; rw [hp] at e; cases e
/-! ### the hand's letters -/
structure Hs.Sy (h : Hs) : Prop where
  k : h.bn.map (·.1) = List.range h.bn.length
  s : h.says ≤ h.bn.length
  s0 : h.p0.says ≤ h.bn.length
  s1 : h.p1.says ≤ h.bn.length
def Hs.letters (h : Hs) : List Int := h.bn.map (·.2)
theorem agt_range {l : List (Nat × Int)} (hk : l.map (·.1) = List.range l.length) (i : Nat) : agt l i = (l[i]?).map (·.2) := by
  have key : ∀ (l : List (Nat × Int)) (a : Nat), l.map (·.1) = List.range' a l.length → ∀ i, agt l (a + i) = (l[i]?).map (·.2) := fun l => by
    induction l with
    | nil => intro a _ i; rfl
    | cons p l ih =>
      intro a hl i
      rw [List.map_cons, List.length_cons, List.range'_succ] at hl
      obtain ⟨h1, h2⟩ := List.cons.inj hl
      rw [agt_cons]
      cases i with
      | zero =>
        rw [if_pos (by rw [h1] <;> rfl)]
        rfl
      | succ i =>
        have h1 : p.1 = a := h1
        rw [if_neg (by omega), show a + (i + 1) = a + 1 + i by omega, ih (a + 1) h2 i]
        rfl
  have := key l 0 (by rw [hk, List.range_eq_range']) i
  rwa [Nat.zero_add] at this
theorem Hs.Sy.say (Y : h.Sy) (v : Int) : (h.say v).Sy ∧ h.bn.length ≤ (h.say v).bn.length := by
  obtain ⟨k, s, s0, s1⟩ := Y
  unfold Hs.say
  split
  · rename_i e
    rw [agt_range k] at e
    have hs : h.says = h.bn.length := by
      rcases Nat.lt_or_ge h.says h.bn.length with q | q
      · rw [List.getElem?_eq_getElem q] at e
        cases e
      · omega
    have hn : ahas h.bn h.says = false := by
      rw [← agt_none, agt_range k]
      exact e
    have ea : apt h.bn h.says v = h.bn ++ [(h.says, v)] := by
      unfold apt
      rw [if_neg (by rw [hn]; decide)]
    refine ⟨⟨?_, ?_, ?_, ?_⟩, ?_⟩
    · show (apt h.bn h.says v).map (·.1) = List.range (apt h.bn h.says v).length
      rw [ea, List.map_append, List.length_append, List.length_singleton, List.range_succ, k, hs]
      rfl
    · show h.says + 1 ≤ (apt h.bn h.says v).length
      rw [ea, List.length_append, List.length_singleton]
      omega
    · show h.p0.says ≤ (apt h.bn h.says v).length
      rw [ea, List.length_append, List.length_singleton]
      omega
    · show h.p1.says ≤ (apt h.bn h.says v).length
      rw [ea, List.length_append, List.length_singleton]
      omega
    · show h.bn.length ≤ (apt h.bn h.says v).length
      rw [ea, List.length_append, List.length_singleton]
      omega
  · rename_i u e
    rw [agt_range k] at e
    have hs : h.says < h.bn.length := by
      rcases Nat.lt_or_ge h.says h.bn.length with q | q
      · exact q
      · rw [List.getElem?_eq_none q] at e
        cases e
    exact ⟨⟨k, hs, s0, s1⟩, Nat.le_refl _⟩
theorem Hs.Sy.keep {h' : Hs} (Y : h.Sy) (a : h'.bn = h.bn) (b : h'.says = h.says) (c : h'.p0 = h.p0) (d : h'.p1 = h.p1) : h'.Sy := by
  obtain ⟨k, s, s0, s1⟩ := Y
  exact ⟨by rw [a]; exact k, by rw [a, b]; exact s, by rw [a, c]; exact s0, by rw [a, d]; exact s1⟩
theorem Hs.Sy.row (Y : h.Sy) (r : PRow) : (h.row Z r).Sy := by
  cases r with
  | say a => exact (Y.say _).1
  | store c a =>
    show (h.written Z _ _).Sy
    unfold Hs.written
    split <;> exact Y.keep rfl rfl rfl rfl
  | lay s a b =>
    show (h.written Z _ _).Sy
    unfold Hs.written
    split <;> exact Y.keep rfl rfl rfl rfl
  | _ => exact Y.keep rfl rfl rfl rfl
theorem Hs.Sy.setBack (Y : h.Sy) {p : Pg} (hp : p.says ≤ h.bn.length) : (h.setBack p).Sy := by
  unfold Hs.setBack
  split
  · exact ⟨Y.k, Y.s, hp, Y.s1⟩
  · exact ⟨Y.k, Y.s, Y.s0, hp⟩
theorem Hs.Sy.page (Y : h.Sy) (b : Bool) : (h.page b).says ≤ h.bn.length := by
  cases b
  · exact Y.s0
  · exact Y.s1
theorem Hs.Sy.deed (Y : h.Sy) (d : Dd) : (h.deed d).Sy := by
  cases d with
  | page r => exact Y.setBack (p := ⟨r, h.done, h.hears, h.says, [], []⟩) Y.s
  | box x v => exact Y.setBack (p := { h.back with held := h.back.held ++ [(x, v)] }) (Y.page (!h.front))
  | turn q v => exact Y.setBack (p := { h.back with turned := h.back.turned ++ [(q, v)] }) (Y.page (!h.front))
  | face => exact Y.keep rfl rfl rfl rfl
  | home p v => exact Y.keep rfl rfl rfl rfl
theorem Hs.Sy.step (Y : h.Sy) : (h.step Z).Sy := by
  unfold Hs.step
  split
  · exact Y
  · split
    · exact Y.keep rfl rfl rfl rfl
    · exact ⟨Y.k, Y.page h.front, Y.s0, Y.s1⟩
  · split
    · exact Y
    · rename_i r hr
      have R := Hs.Sy.row (Z := Z) (h := { h with done := h.done + 1 }) (Y.keep rfl rfl rfl rfl) r
      split
      · exact R.keep rfl rfl rfl rfl
      · unfold Hs.come
        split <;> exact R.keep rfl rfl rfl rfl
  · split
    · exact Y
    · rename_i d hd
      split <;> exact (Y.deed d).keep rfl rfl rfl rfl
end
end Dn

/-! the house in the store -/
namespace Dn
open PySem PySem.Spec PyProof.Rows L2
structure HL where
  o : Nat
  le : Nat
  ke : Nat
  co : Nat
  st : Nat
  ha : Nat
  he : Nat
  lo : Nat
  ph : Nat
  hm : Nat
  sz : Nat
  pg : Nat
  p0 : Nat
  p1 : Nat
  h0 : Nat
  t0 : Nat
  h1 : Nat
  t1 : Nat
  bn : Nat
abbrev intD : Int → DV := DV.int
abbrev blD : Bool → DV := DV.bl
abbrev bxD (l : List Str) : DV := .tup (l.map .str)
def Hst.PD (Z : Hst) : DV := .tup [.tup (Z.cells.map thD), .tup (Z.shelves.map thD), .tup (Z.rows.map PRow.d)]
def dikS {α : Type} (f : α → DV) (l : List (Str × α)) : DV := .dik .own (l.map fun p => kS p.1) (l.map fun p => f p.2)
def hsF (Z : Hst) (L : HL) (h : Hs) : List (Str × DV) :=
  [("program", Z.PD), ("leads", .loc L.le), ("twins", dikS blD Z.twL), ("sizes", dikS intD Z.szL), ("keeps", .loc L.ke), ("coming", .loc L.co), ("stays", .loc L.st), ("hand", .loc L.ha),
    ("dust", .int h.dust), ("held", .loc L.he), ("log", .loc L.lo), ("done", .int h.done), ("hears", .int h.hears), ("says", .int h.says), ("phase", .loc L.ph)]
def Dd.d : Dd → DV
  | .page r => .tup [.str "page", .int r]
  | .box x v => .tup [.str "box", .str x, .int v]
  | .turn p v => .tup [.str "turn", .str p.1, .int p.2, .int v]
  | .face => .tup [.str "face"]
  | .home p v => .tup [.str "home", .str p.1, .int p.2, .int v]
def phC : Ph → Cell
  | .up k => .ins "Up" [("passed", .int k)]
  | .go r => .ins "Going" [("line", .int r)]
  | .keep r l k => .ins "Keeping" [("line", .int r), ("steps", .lst .own (l.map Dd.d)), ("passed", .int k)]
  | .rest => .ins "Resting" []
def frN (b : Bool) : Nat := if b = true then 1 else 0
def stF (L : HL) (h : Hs) : List (Str × DV) := [("home", .loc L.hm), ("sizes", .loc L.sz), ("pages", .loc L.pg), ("front", .int (frN h.front : Nat)), ("final", optI h.fin)]
def headD (p : Pg) : DV := .tup [.int p.row, .int p.done, .int p.hears, .int p.says]
def pgF (p : Pg) (a b : Nat) : List (Str × DV) := [("head", headD p), ("held", .loc a), ("turned", .loc b)]
abbrev bvD (q : Str × Int) : DV := .tup [.str q.1, .int q.2]
abbrev tnD (q : Pl × Int) : DV := .tup [plD q.1, .int q.2]
def hnF (L : HL) (h : Hs) : List (Str × DV) := [("by_number", .loc L.bn), ("rent", .bl h.rent)]
def hsC (Z : Hst) (L : HL) (h : Hs) : Cs :=
  [(L.o, .ins "House" (hsF Z L h)), (L.le, .lst (leadsD Z.rows)), (L.ke, dkN bxD Z.keepsL), (L.co, .lst (Z.coming.map .int)), (L.st, .ins "Store" (stF L h)), (L.hm, dkP intD h.home), (L.sz, dkS intD Z.szL), (L.p0, .ins "Page" (pgF h.p0 L.h0 L.t0)), (L.h0, .lst (h.p0.held.map bvD)), (L.t0, .lst (h.p0.turned.map tnD)), (L.p1, .ins "Page" (pgF h.p1 L.h1 L.t1)), (L.h1, .lst (h.p1.held.map bvD)), (L.t1, .lst (h.p1.turned.map tnD)), (L.pg, .lst [.loc L.p0, .loc L.p1]), (L.ha, .ins "Hand" (hnF L h)), (L.bn, dkN intD h.bn), (L.he, dkS intD h.held), (L.lo, dkP intD h.log), (L.ph, phC h.ph)]
/-- a step of the house's part -/
abbrev HSt (Z : Hst) (S : Sto) (L : HL) (h : Hs) (S' : Sto) (L' : HL) (h' : Hs) : Prop := Stp S (hsC Z L h) S' (hsC Z L' h') ∧ L'.o = L.o
section
variable {Z : Hst} {S S' S1 : Sto} {L L' L1 : HL} {h h' h1 : Hs}
theorem HSt.trans (a : HSt Z S L h S1 L1 h1) (b : HSt Z S1 L1 h1 S' L' h') : HSt Z S L h S' L' h' := ⟨a.1.trans b.1, b.2.trans a.2⟩
theorem HSt.refl (A : AtS S (hsC Z L h)) : HSt Z S L h S L h := ⟨Stp.refl A, rfl⟩
variable (A : AtS S (hsC Z L h))
include A
end
/-- a new page: its object, its lists -/
def pgCells (p : Pg) (n : Nat) : List Cell := [.ins "Page" (pgF p (n + 1) (n + 2)), .lst [], .lst []]
section
variable {Z : Hst} {S : Sto} {L : HL} {h : Hs} (A : AtS S (hsC Z L h)) {p : Pg}
include A
end
end Dn

/-! list(range(j)) -/
namespace Dn
open PySem PySem.Spec PyProof.Rows L2
section
variable {X : Cx}
end
end Dn

/-! a house of a program in order -/
namespace Dn
open PySem PySem.Spec PyProof.Rows L2
section
variable {κ α β : Type} [DecidableEq κ]
theorem fold_apt_not (kf : β → κ) (vf : β → α) {p : κ} : ∀ (l : List β) (acc : List (κ × α)), (∀ c ∈ l, kf c ≠ p) → agt (l.foldl (fun a c => apt a (kf c) (vf c)) acc) p = agt acc p
  | [], acc, _ => rfl
  | c :: l, acc, h => by
    rw [List.foldl_cons, fold_apt_not kf vf l _ fun x hx => h x (List.mem_cons_of_mem _ hx), agt_apt, if_neg (h c List.mem_cons_self)]
theorem fold_apt_mem (kf : β → κ) (vf : β → α) : ∀ (l : List β) (acc : List (κ × α)), (l.map kf).Nodup → ∀ c ∈ l, agt (l.foldl (fun a c => apt a (kf c) (vf c)) acc) (kf c) = some (vf c)
  | [], acc, _, c, h => nomatch h
  | d :: l, acc, hn, c, h => by
    rw [List.map_cons, List.nodup_cons] at hn
    rw [List.foldl_cons]
    rcases List.mem_cons.mp h with e | h
    · subst e
      rw [fold_apt_not kf vf l _ fun x hx e => hn.1 (by rw [← e]; exact List.mem_map_of_mem hx), agt_apt, if_pos rfl]
    · exact fold_apt_mem kf vf l _ hn.2 c h
theorem fold_apt_all (kf : β → κ) (vf : β → α) {P : κ × α → Prop} : ∀ (l : List β) (acc : List (κ × α)), (∀ p ∈ acc, P p) → (∀ c ∈ l, P (kf c, vf c)) → ∀ p ∈ l.foldl (fun a c => apt a (kf c) (vf c)) acc, P p
  | [], acc, h, _, p, hp => h p hp
  | c :: l, acc, h, h2, p, hp => fold_apt_all kf vf l _ (apt_mem h (h2 c List.mem_cons_self)) (fun x hx => h2 x (List.mem_cons_of_mem _ hx)) p hp
theorem fold_apt_len (kf : β → κ) (vf : β → α) : ∀ (l : List β) (acc : List (κ × α)), (l.foldl (fun a c => apt a (kf c) (vf c)) acc).length ≤ acc.length + l.length
  | [], acc => Nat.le_refl _
  | c :: l, acc => by
    have := fold_apt_len kf vf l (apt acc (kf c) (vf c))
    have := apt_len (l := acc) (k := kf c) (v := vf c)
    rw [List.foldl_cons, List.length_cons]
    omega
theorem ahas_some {l : List (κ × α)} {k : κ} {v : α} (h : agt l k = some v) : ahas l k = true := by
  cases q : ahas l k with
  | true => rfl
  | false => rw [agt_none.mpr q] at h; cases h
end
theorem agt_shelfL (acc : List (Pl × Int)) (c : Thing) (p : Pl) : agt (shelfL acc c) p = if p.1 = c.1 ∧ p.2 < c.2.1.toNat then some 0 else agt acc p := by
  unfold shelfL
  generalize c.2.1.toNat = n
  induction n with
  | zero => rw [if_neg (by omega)]; rfl
  | succ n ih =>
    rw [List.range_succ, List.foldl_append, List.foldl_cons, List.foldl_nil, agt_apt, ih]
    by_cases q : (c.1, n) = p
    · rw [if_pos q, if_pos (by rw [← q]; exact ⟨rfl, Nat.lt_succ_self _⟩)]
    · rw [if_neg q]
      by_cases z : p.1 = c.1 ∧ p.2 < n
      · rw [if_pos z, if_pos ⟨z.1, by omega⟩]
      · rw [if_neg z, if_neg fun y => z ⟨y.1, by
          rcases Nat.lt_or_ge p.2 n with t | t
          · exact t
          · exact absurd (Prod.ext y.1.symm (show n = p.2 by omega)) q⟩]
theorem fold_shelf_not {p : Pl} : ∀ (l : List Thing) (acc : List (Pl × Int)), (∀ c ∈ l, c.1 ≠ p.1) → agt (l.foldl shelfL acc) p = agt acc p
  | [], acc, _ => rfl
  | c :: l, acc, h => by
    rw [List.foldl_cons, fold_shelf_not l _ fun x hx => h x (List.mem_cons_of_mem _ hx), agt_shelfL, if_neg fun z => h c List.mem_cons_self z.1.symm]
theorem fold_shelf_mem : ∀ (l : List Thing) (acc : List (Pl × Int)), (l.map (·.1)).Nodup → ∀ c ∈ l, ∀ k : Nat, k < c.2.1.toNat → agt (l.foldl shelfL acc) (c.1, k) = some 0
  | [], acc, _, c, h, _, _ => nomatch h
  | d :: l, acc, hn, c, h, k, hk => by
    rw [List.map_cons, List.nodup_cons] at hn
    rw [List.foldl_cons]
    rcases List.mem_cons.mp h with e | h
    · subst e
      rw [fold_shelf_not l _ fun x hx e => hn.1 (by rw [← e]; exact List.mem_map_of_mem hx), agt_shelfL, if_pos ⟨rfl, hk⟩]
    · exact fold_shelf_mem l _ hn.2 c h k hk
theorem shelfL_all {P : Pl × Int → Prop} (c : Thing) (acc : List (Pl × Int)) (h : ∀ p ∈ acc, P p) (h2 : ∀ k : Nat, k < c.2.1.toNat → P ((c.1, k), 0)) : ∀ p ∈ shelfL acc c, P p := by
  unfold shelfL
  exact fold_apt_all (fun k : Nat => ((c.1, k) : Pl)) (fun _ => (0 : Int)) _ acc h fun k hk => h2 k (List.mem_range.mp hk)
theorem fold_shelf_all {P : Pl × Int → Prop} : ∀ (l : List Thing) (acc : List (Pl × Int)), (∀ p ∈ acc, P p) → (∀ c ∈ l, ∀ k : Nat, k < c.2.1.toNat → P ((c.1, k), 0)) → ∀ p ∈ l.foldl shelfL acc, P p
  | [], acc, h, _ => h
  | c :: l, acc, h, h2 => fold_shelf_all l _ (shelfL_all c acc h (h2 c List.mem_cons_self)) fun x hx => h2 x (List.mem_cons_of_mem _ hx)
theorem fold_shelf_len (m : Nat) : ∀ (l : List Thing) (acc : List (Pl × Int)), (∀ c ∈ l, c.2.1.toNat ≤ m) → (l.foldl shelfL acc).length ≤ acc.length + m * l.length
  | [], acc, _ => by simp
  | c :: l, acc, h => by
    have h1 := fold_shelf_len m l (shelfL acc c) fun x hx => h x (List.mem_cons_of_mem _ hx)
    have h2 : (shelfL acc c).length ≤ acc.length + c.2.1.toNat := by
      have := fold_apt_len (fun k : Nat => ((c.1, k) : Pl)) (fun _ => (0 : Int)) (List.range c.2.1.toNat) acc
      rw [List.length_range] at this
      exact this
    have h3 := h c List.mem_cons_self
    rw [List.foldl_cons, List.length_cons, Nat.mul_succ]
    omega
/-- what is asked of the cells and shelves of a program -/
structure Hst.In (Z : Hst) : Prop where
  nd : ((Z.cells ++ Z.shelves).map (·.1)).Nodup
  cv : ∀ c ∈ Z.cells, In40 c.2.1
  sv : ∀ c ∈ Z.shelves, 1 ≤ c.2.1 ∧ c.2.1 ≤ 8
  cz : Z.cells.length ≤ 100
  sz : Z.shelves.length ≤ 100
section
variable {Z : Hst}
theorem Hst.In.zs (I : Z.In) : Z.Zs := ⟨by have := I.cz; omega, by have := I.sz; omega, fun c hc => by have := I.sv c hc; omega⟩
theorem Hst.In.nds (I : Z.In) : (Z.shelves.map (·.1)).Nodup ∧ (Z.cells.map (·.1)).Nodup ∧ ∀ c ∈ Z.cells, ∀ s ∈ Z.shelves, s.1 ≠ c.1 := by
  have := I.nd
  rw [List.map_append] at this
  obtain ⟨a, b, c⟩ := List.nodup_append.mp this
  exact ⟨b, a, fun x hx s hs e => c _ (List.mem_map_of_mem hx) _ (List.mem_map_of_mem hs) e.symm⟩
theorem nodup_key {l : List Thing} (h : (l.map (·.1)).Nodup) : (l.map fun c => ((c.1, 0) : Pl)).Nodup := by
  induction l with
  | nil => exact List.nodup_nil
  | cons c l ih =>
    rw [List.map_cons, List.nodup_cons] at h ⊢
    refine ⟨fun q => h.1 ?_, ih h.2⟩
    obtain ⟨x, hx, e⟩ := List.mem_map.mp q
    exact List.mem_map.mpr ⟨x, hx, (Prod.mk.inj e).1⟩
theorem Hst.In.home_c (I : Z.In) {c : Thing} (hc : c ∈ Z.cells) : agt Z.homeL (c.1, 0) = some c.2.1 := by
  unfold Hst.homeL
  rw [fold_shelf_not _ _ fun s hs => (I.nds).2.2 c hc s hs]
  exact fold_apt_mem (fun c : Thing => ((c.1, 0) : Pl)) (fun c => c.2.1) Z.cells [] (nodup_key I.nds.2.1) c hc
theorem Hst.In.home_s (I : Z.In) {c : Thing} (hc : c ∈ Z.shelves) {k : Nat} (hk : (k : Int) < c.2.1) : agt Z.homeL (c.1, k) = some 0 := by
  unfold Hst.homeL
  exact fold_shelf_mem _ _ I.nds.1 c hc k (by omega)
theorem Hst.In.tw_c (I : Z.In) {c : Thing} (hc : c ∈ Z.cells) : agt Z.twL c.1 = some c.2.2 := by
  unfold Hst.twL
  rw [fold_apt_not (fun c : Thing => c.1) (fun c => c.2.2) _ _ fun s hs => I.nds.2.2 c hc s hs]
  exact fold_apt_mem (fun c : Thing => c.1) (fun c => c.2.2) _ _ I.nds.2.1 c hc
theorem Hst.In.tw_s (I : Z.In) {c : Thing} (hc : c ∈ Z.shelves) : agt Z.twL c.1 = some c.2.2 := by
  unfold Hst.twL
  exact fold_apt_mem (fun c : Thing => c.1) (fun c => c.2.2) _ _ I.nds.1 c hc
theorem Hst.In.sz_s (I : Z.In) {c : Thing} (hc : c ∈ Z.shelves) : agt Z.szL c.1 = some c.2.1 := by
  unfold Hst.szL
  exact fold_apt_mem (fun c : Thing => c.1) (fun c => c.2.1) _ _ I.nds.1 c hc
theorem Hst.In.size_s (I : Z.In) {c : Thing} (hc : c ∈ Z.shelves) : Z.size c.1 = c.2.1 := by unfold Hst.size; rw [I.sz_s hc]; rfl
theorem isP_of {p : Pl} {v : Int} (h : agt Z.homeL p = some v) : Z.IsP p := by
  unfold Hst.IsP Hst.homeK
  exact ahas_iff.mp (ahas_some h)
theorem Hst.In.cell (I : Z.In) {c : Thing} (hc : c ∈ Z.cells) : Z.CellOk c.1 := ⟨ahas_some (I.tw_c hc), isP_of (I.home_c hc)⟩
theorem Hst.In.shelf (I : Z.In) {c : Thing} (hc : c ∈ Z.shelves) : Z.ShelfOk c.1 := by
  have e := I.size_s hc
  have := I.sv c hc
  exact ⟨ahas_some (I.tw_s hc), by rw [e]; exact I.sz_s hc, by omega, by omega, fun k hk => isP_of (I.home_s hc (by omega))⟩
theorem Hst.In.hm (I : Z.In) : ∀ p ∈ Z.homeL, In40 p.2 := by
  unfold Hst.homeL
  refine fold_shelf_all _ _ (fold_apt_all (fun c : Thing => ((c.1, 0) : Pl)) (fun c => c.2.1) _ _ (fun p hp => nomatch hp) fun c hc => I.cv c hc) fun c hc k hk => in0
theorem Hst.In.hz (I : Z.In) : Z.homeL.length ≤ 1000 := by
  have h1 := fold_shelf_len 8 Z.shelves (Z.cells.foldl (fun l c => apt l (c.1, 0) c.2.1) []) fun c hc => by have := I.sv c hc; omega
  have h2 : (Z.cells.foldl (fun l c => apt l (c.1, 0) c.2.1) ([] : List (Pl × Int))).length ≤ 0 + Z.cells.length := fold_apt_len (fun c : Thing => ((c.1, 0) : Pl)) (fun c => c.2.1) Z.cells []
  have := I.cz
  have := I.sz
  unfold Hst.homeL
  generalize Z.cells.foldl (fun l c => apt l (c.1, 0) c.2.1) ([] : List (Pl × Int)) = acc at h1 h2 ⊢
  omega
/-- all that a house asks -/
theorem Hst.In.ok (I : Z.In) (r : ∀ r ∈ Z.rows, Z.RowOk r) (led : ∀ (i : Nat) (r : PRow), Z.rows[i]? = some r → ∀ t ∈ r.led i, t < Z.rows.length) (n0 : 0 < Z.rows.length) (n1 : Z.rows.length ≤ 1000)
    (co : ∀ v ∈ Z.coming, In40 v) (cz : Z.coming.length ≤ 1000) (ks : ∀ k ∈ Z.keeps, k.2.length ≤ 1000) (kz : Z.keeps.length ≤ 1000) (bz : Z.beg.length ≤ 1000) : Z.Ok := ⟨r, led, n0, n1, co, cz, ks, kz, bz, I.hm, I.hz⟩
end
end Dn

/-! rows that work on given names -/
namespace Dn
open PySem PySem.Spec PyProof.Rows L2
def PRow.In (cn sn : List Str) : PRow → Prop
  | .say a => a.Ok
  | .copy _ a => a.Ok
  | .op _ s a b => isSign s ∧ a.Ok ∧ b.Ok
  | .load _ c => c ∈ cn
  | .store c a => c ∈ cn ∧ a.Ok
  | .take _ s a => s ∈ sn ∧ a.Ok
  | .lay s a b => s ∈ sn ∧ a.Ok ∧ b.Ok
  | .hear _ => True
  | .ifr a _ => a.Ok
  | .go _ => True
  | .endr a => a.Ok
section
variable {Z : Hst}
theorem Hst.In.row (I : Z.In) {r : PRow} (h : r.In (Z.cells.map (·.1)) (Z.shelves.map (·.1))) : Z.RowOk r := by
  have cl : ∀ {c : Str}, c ∈ Z.cells.map (·.1) → Z.CellOk c := fun {c} hc => by
    obtain ⟨x, hx, rfl⟩ := List.mem_map.mp hc
    exact I.cell hx
  have sl : ∀ {c : Str}, c ∈ Z.shelves.map (·.1) → Z.ShelfOk c := fun {c} hc => by
    obtain ⟨x, hx, rfl⟩ := List.mem_map.mp hc
    exact I.shelf hx
  cases r with
  | say a => exact h
  | copy x a => exact h
  | op x s a b => exact h
  | load x c => exact cl h
  | store c a => exact ⟨cl h.1, h.2⟩
  | take x s a => exact ⟨sl h.1, h.2⟩
  | lay s a b => exact ⟨sl h.1, h.2⟩
  | hear x => exact trivial
  | ifr a n => exact h
  | go n => exact trivial
  | endr a => exact h
end
theorem PRow.In.ok {cn sn : List Str} {ck sk : List Key} (hc : ∀ c ∈ cn, hasK ck (.inr c) = true) (hs : ∀ s ∈ sn, hasK sk (.inr s) = true) {r : PRow} (h : r.In cn sn) : r.Ok ck sk := by
  cases r with
  | say a => exact h
  | copy x a => exact h
  | op x s a b => exact h
  | load x c => exact hc _ h
  | store c a => exact ⟨hc _ h.1, h.2⟩
  | take x s a => exact ⟨hs _ h.1, h.2⟩
  | lay s a b => exact ⟨hs _ h.1, h.2⟩
  | hear x => exact trivial
  | ifr a n => exact h
  | go n => exact trivial
  | endr a => exact h
/-- where a row leads, within -/
def PRow.Led (many : Nat) : PRow → Prop
  | .ifr _ n => n < many
  | .go n => n < many
  | _ => True
theorem PRow.Led.led {many i : Nat} {r : PRow} (h : r.Led many) (hi : isEnd r = false → i + 1 < many) : ∀ t ∈ r.led i, t < many := fun t ht => by
  cases r with
  | ifr a n =>
    have ht : t ∈ [n, i + 1] := ht
    simp only [List.mem_cons, List.not_mem_nil, or_false] at ht
    rcases ht with q | q
    · rw [q]; exact h
    · rw [q]; exact hi rfl
  | go n => rw [List.mem_singleton.mp (show t ∈ [n] from ht)]; exact h
  | endr a => cases ht
  | _ => rw [List.mem_singleton.mp ht]; exact hi rfl
end Dn

/-! a def with defaults -/
namespace Dn
open PySem PySem.Spec PyProof.Rows L2
end Dn

/-! equal data; a house driven; the names on its pages -/
namespace Dn
open PySem PySem.Spec PyProof.Rows L2
theorem goodL_of {ds : List DV} (h : ∀ d ∈ ds, good d = true) : goodL ds = true := by
  induction ds with
  | nil => rfl
  | cons d ds ih =>
    show (good d && goodL ds) = true
    rw [h d List.mem_cons_self, ih fun x hx => h x (List.mem_cons_of_mem _ hx)]
    rfl
theorem goodL_map {α : Type} {f : α → DV} {l : List α} (h : ∀ a ∈ l, good (f a) = true) : goodL (l.map f) = true := goodL_of fun d hd => by
  obtain ⟨a, ha, rfl⟩ := List.mem_map.mp hd
  exact h a ha
theorem eq_int {S : Sto} {i : Int} (neg : Bool) : pEq neg (.int i) (.int i) S = some (.bl (!neg), S) := by
  cases neg with
  | false => rw [v_eqI, decide_eq_true rfl]; rfl
  | true => rw [v_neI, decide_eq_true rfl]
/-! ### so many steps -/
section
variable (Z : Hst)
end
section
variable {Z : Hst} {N : Nat} {h : Hs}
/-! ### the names on the pages -/
structure Hs.Hn (P : Str → Prop) (h : Hs) : Prop where
  p0 : ∀ q ∈ h.p0.held, P q.1
  p1 : ∀ q ∈ h.p1.held, P q.1
  ph : ∀ r l k, h.ph = .keep r l k → ∀ x v, Dd.box x v ∈ l → P x
variable {P : Str → Prop}
theorem Hs.Hn.keep (Y : h.Hn P) {h' : Hs} (a : h'.p0 = h.p0) (b : h'.p1 = h.p1) (c : ∀ r l k, h'.ph = .keep r l k → ∀ x v, Dd.box x v ∈ l → P x) : h'.Hn P := ⟨by rw [a]; exact Y.p0, by rw [b]; exact Y.p1, c⟩
theorem row_pages (r : PRow) : (h.row Z r).p0 = h.p0 ∧ (h.row Z r).p1 = h.p1 := by
  have w : ∀ p v, (h.written Z p v).p0 = h.p0 ∧ (h.written Z p v).p1 = h.p1 := fun p v => by
    unfold Hs.written
    split <;> exact ⟨rfl, rfl⟩
  cases r with
  | say a =>
    show (h.say _).p0 = _ ∧ (h.say _).p1 = _
    unfold Hs.say
    split <;> exact ⟨rfl, rfl⟩
  | store c a => exact w _ _
  | lay s a b => exact w _ _
  | _ => exact ⟨rfl, rfl⟩
theorem Hs.Hn.setBack (Y : h.Hn P) {p : Pg} (hp : ∀ q ∈ p.held, P q.1) : (h.setBack p).Hn P := by
  unfold Hs.setBack
  split
  · exact ⟨hp, Y.p1, Y.ph⟩
  · exact ⟨Y.p0, hp, Y.ph⟩
theorem Hs.Hn.page (Y : h.Hn P) (b : Bool) : ∀ q ∈ (h.page b).held, P q.1 := by
  cases b
  · exact Y.p0
  · exact Y.p1
theorem Hs.Hn.deed (Y : h.Hn P) {d : Dd} (hd : ∀ x v, d = .box x v → P x) : (h.deed d).Hn P := by
  cases d with
  | page r => exact Y.setBack (fun q hq => nomatch hq)
  | box x v => exact Y.setBack (p := { h.back with held := h.back.held ++ [(x, v)] }) fun q hq => (List.mem_append.mp hq).elim (Y.page (!h.front) q) fun e => by rw [List.mem_singleton.mp e]; exact hd x v rfl
  | turn p v => exact Y.setBack (p := { h.back with turned := h.back.turned ++ [(p, v)] }) (Y.page (!h.front))
  | face => exact Y.keep rfl rfl Y.ph
  | home p v => exact Y.keep rfl rfl Y.ph
theorem Hs.Hn.step (Y : h.Hn P) (K : Z.Ok) (hk : ∀ k ∈ Z.keeps, ∀ x ∈ k.2, P x) : (h.step Z).Hn P := by
  unfold Hs.step
  split
  · exact Y
  · split
    · exact Y.keep rfl rfl (fun r l k e => nomatch e)
    · exact Y.keep rfl rfl (fun r l k e => nomatch e)
  · split
    · exact Y
    · rename_i i _ r hr
      obtain ⟨a, b⟩ := row_pages (Z := Z) (h := { h with done := h.done + 1 }) r
      split
      · exact Y.keep a b (fun r l k e => nomatch e)
      · unfold Hs.come
        split
        · exact Y.keep a b (fun r l k e => nomatch e)
        · rename_i bs e
          refine Y.keep a b fun r' l k e2 x v hx => ?_
          injection e2 with e3 e4 e5
          rw [← e4] at hx
          unfold Hs.small at hx
          have hb := hk _ (keepsL_mem K e)
          simp only [List.mem_append, List.mem_cons, List.mem_map, List.not_mem_nil, or_false, reduceCtorEq, false_or, and_false, exists_false] at hx
          obtain ⟨y, hy, ey⟩ := hx
          cases ey
          exact hb _ hy
  · rename_i r l k hp
    split
    · exact Y
    · rename_i d hd
      have D := Y.deed (d := d) fun x v e => Y.ph r l k hp x v (by rw [← e]; exact List.mem_of_getElem? hd)
      split
      · refine D.keep rfl rfl fun r' l' k' e => ?_
        injection e with e1 e2 e3
        rw [← e2]
        exact Y.ph r l k hp
      · exact D.keep rfl rfl (fun r l k e => nomatch e)
end
end Dn

/-! the plain machine of a program in order; what is seen of it -/
namespace Dn
open PySem PySem.Spec PyProof.Rows L2
section
variable {κ α : Type} [DecidableEq κ] {k j : κ} {v : α}
theorem pn_app : ∀ {a : List κ} {c : List α} {b : List κ} {d : List α}, a.length = c.length → lkG (a ++ b) (c ++ d) j = (lkG a c j).or (lkG b d j)
  | [], [], b, d, _ => by
    show lkG b d j = (lkG ([] : List κ) ([] : List α) j).or _
    unfold lkG
    rfl
  | [], _ :: _, _, _, h => by cases h
  | _ :: _, [], _, _, h => by cases h
  | x :: a, y :: c, b, d, h => by
    show (if x = j then some y else lkG (a ++ b) (c ++ d) j) = (if x = j then some y else lkG a c j).or (lkG b d j)
    by_cases q : x = j
    · rw [if_pos q, if_pos q]; rfl
    · rw [if_neg q, if_neg q, pn_app (Nat.succ.inj h)]
theorem pn_none : ∀ {a : List κ} {c : List α}, hasK a k = false → a.length = c.length → rpG k v a c = c
  | [], [], _, _ => rfl
  | [], _ :: _, _, h => by cases h
  | _ :: _, [], _, h => by cases h
  | x :: a, y :: c, h, hl => by
    unfold hasK at h
    rw [List.any_cons, Bool.or_eq_false_iff] at h
    show (if x = k then v else y) :: rpG k v a c = y :: c
    rw [if_neg (by simpa using h.1), pn_none (show hasK a k = false from h.2) (Nat.succ.inj hl)]
theorem pn_rp : ∀ {a : List κ} {c : List α}, hasK a k = true → a.length = c.length → lkG a (rpG k v a c) j = if k = j then some v else lkG a c j
  | [], _, h, _ => by cases h
  | _ :: _, [], _, hl => by cases hl
  | x :: a, y :: c, h, hl => by
    show (if x = j then some (if x = k then v else y) else lkG a (rpG k v a c) j) = if k = j then some v else (if x = j then some y else lkG a c j)
    by_cases q : x = k
    · by_cases q2 : x = j
      · rw [if_pos q2, if_pos q, if_pos (q.symm.trans q2)]
      · rw [if_neg q2, if_neg fun e => q2 (q.trans e), if_neg q2]
        by_cases q3 : hasK a k = true
        · rw [pn_rp q3 (Nat.succ.inj hl), if_neg fun e => q2 (q.trans e)]
        · rw [pn_none (by simpa using q3) (Nat.succ.inj hl)]
    · have h2 : hasK a k = true := by
        unfold hasK at h
        rw [List.any_cons, decide_eq_false q, Bool.false_or] at h
        exact h
      rw [pn_rp h2 (Nat.succ.inj hl)]
      by_cases q2 : x = j
      · rw [if_pos q2, if_neg q, if_neg (fun e => q (q2.trans e.symm)), if_pos q2]
      · rw [if_neg q2, if_neg q2]
theorem pn_lk_none : ∀ {a : List κ} {c : List α}, hasK a k = false → lkG a c k = none
  | [], c, _ => by unfold lkG; rfl
  | x :: a, [], _ => by unfold lkG; rfl
  | x :: a, y :: c, h => by
    unfold hasK at h
    rw [List.any_cons, Bool.or_eq_false_iff] at h
    show (if x = k then some y else lkG a c k) = none
    rw [if_neg (by simpa using h.1), pn_lk_none (show hasK a k = false from h.2)]
theorem pn_put {a : List κ} {c : List α} (hl : a.length = c.length) : lkG (putKs a k) (putG a c k v) j = if k = j then some v else lkG a c j := by
  by_cases q : hasK a k = true
  · rw [putKs_has q, putG_has q, pn_rp q hl]
  · unfold putKs putG
    rw [if_neg q, if_neg q, pn_app hl]
    by_cases q2 : k = j
    · subst q2
      rw [pn_lk_none (by simpa using q), if_pos rfl]
      show (none : Option α).or (if k = k then some v else _) = some v
      rw [if_pos rfl]; rfl
    · rw [if_neg q2]
      have : lkG [k] [v] j = none := by
        show (if k = j then some v else lkG ([] : List κ) ([] : List α) j) = none
        rw [if_neg q2]; unfold lkG; rfl
      rw [this]
      cases lkG a c j <;> rfl
end
/-! ### where it starts, what stays -/
def Hst.pst (Z : Hst) : PSt := ⟨0, 0, 0, none, [], [], Z.cells.map fun c => .inr c.1, Z.cells.map fun c => c.2.1, Z.shelves.map fun c => .inr c.1, Z.shelves.map fun c => List.replicate c.2.1.toNat 0, []⟩
structure Hst.Pl (Z : Hst) (st : PSt) (n : Nat) : Prop where
  ok : st.Ok
  ck : st.ck = Z.cells.map fun c => .inr c.1
  sk : st.sk = Z.shelves.map fun c => .inr c.1
  at_ : st.at_ < Z.rows.length
  dn : st.done ≤ n
  sz : ∀ c ∈ Z.shelves, (st.shelf c.1).length = c.2.1.toNat
/-- rows in order -/
structure Hst.Rs (Z : Hst) : Prop where
  i : Z.In
  r : ∀ r ∈ Z.rows, r.In (Z.cells.map (·.1)) (Z.shelves.map (·.1))
  led : ∀ (i : Nat) (r : PRow), Z.rows[i]? = some r → ∀ t ∈ r.led i, t < Z.rows.length
  n0 : 0 < Z.rows.length
  n1 : Z.rows.length ≤ 1000
  co : ∀ v ∈ Z.coming, In40 v
section
variable {Z : Hst} {st : PSt} {n : Nat}
theorem hasK_str {l : List Thing} {s : Str} (h : s ∈ l.map (·.1)) : hasK (l.map fun c => (Sum.inr c.1 : Key)) (.inr s) = true := by
  obtain ⟨c, hc, rfl⟩ := List.mem_map.mp h
  exact List.any_eq_true.mpr ⟨.inr c.1, List.mem_map.mpr ⟨c, hc, rfl⟩, decide_eq_true rfl⟩
theorem lk_first {α : Type} {f : Thing → α} : ∀ {l : List Thing}, (l.map (·.1)).Nodup → ∀ c ∈ l, lkG (l.map fun c => (Sum.inr c.1 : Key)) (l.map f) (.inr c.1) = some (f c)
  | [], _, c, h => nomatch h
  | d :: l, hn, c, h => by
    rw [List.map_cons, List.nodup_cons] at hn
    show (if (Sum.inr d.1 : Key) = .inr c.1 then some (f d) else lkG (l.map fun c => (Sum.inr c.1 : Key)) (l.map f) (.inr c.1)) = some (f c)
    rcases List.mem_cons.mp h with e | h
    · subst e; rw [if_pos rfl]
    · rw [if_neg (fun e => hn.1 (by rw [Sum.inr.inj e]; exact List.mem_map_of_mem h))]
      exact lk_first hn.2 c h
theorem pst_pl (R : Z.Rs) : Z.Pl Z.pst 0 := by
  refine ⟨⟨rfl, (fun v hv => nomatch hv), by show (Z.cells.map _).length = (Z.cells.map _).length; rw [List.length_map, List.length_map], fun v hv => ?_, by show (Z.shelves.map _).length = (Z.shelves.map _).length; rw [List.length_map, List.length_map], fun l hl => ?_, Nat.le_refl _, Nat.le_refl _⟩, rfl, rfl, R.n0, Nat.le_refl _, fun c hc => ?_⟩
  · obtain ⟨c, hc, rfl⟩ := List.mem_map.mp (show v ∈ Z.cells.map fun c => c.2.1 from hv)
    exact R.i.cv c hc
  · obtain ⟨c, hc, rfl⟩ := List.mem_map.mp (show l ∈ Z.shelves.map fun c => List.replicate c.2.1.toNat (0 : Int) from hl)
    have := R.i.sv c hc
    refine ⟨fun e => ?_, by rw [List.length_replicate]; omega, fun v hv => by rw [(List.mem_replicate.mp hv).2]; exact in0⟩
    have := congrArg List.length e
    rw [List.length_replicate, List.length_nil] at this
    omega
  · unfold PSt.shelf Hst.pst
    rw [lk_first (f := fun c => List.replicate c.2.1.toNat (0 : Int)) R.i.nds.1 c hc]
    exact List.length_replicate
theorem Hst.Pl.rok (P : Z.Pl st n) (R : Z.Rs) : ∀ r ∈ Z.rows, r.Ok st.ck st.sk := fun r hr => by
  rw [P.ck, P.sk]
  exact (R.r r hr).ok (fun c hc => hasK_str hc) fun s hs => hasK_str hs
theorem pnext_led {st : PSt} {r : PRow} (he : isEnd r = false) : st.next r ∈ r.led st.at_ := by
  cases r with
  | ifr a n =>
    show (if st.worth a = 0 then st.at_ + 1 else n) ∈ [n, st.at_ + 1]
    split
    · exact List.mem_cons_of_mem _ List.mem_cons_self
    · exact List.mem_cons_self
  | endr a => cases he
  | _ => exact List.mem_cons_self
theorem shelf_lay {s s' : Str} {l : List Int} (O : st.Ok) (h : hasK st.sk (.inr s) = true) : PSt.shelf { st with sv := rpG (.inr s) l st.sk st.sv } s' = if s = s' then l else st.shelf s' := by
  unfold PSt.shelf
  show (lkG st.sk (rpG (.inr s) l st.sk st.sv) (.inr s')).getD [0] = _
  rw [pn_rp h O.sl]
  by_cases q : s = s'
  · rw [if_pos (by rw [q]), if_pos q]; rfl
  · rw [if_neg (fun e => q (Sum.inr.inj e)), if_neg q]
theorem Hst.Pl.step (P : Z.Pl st n) (R : Z.Rs) : Z.Pl (st.step Z.rows Z.coming) (n + 1) := by
  obtain ⟨o1, o2, o3⟩ := P.ok.step (rows := Z.rows) (coming := Z.coming) R.co (P.rok R)
  have dn := P.dn
  refine ⟨o1, o2.trans P.ck, o3.trans P.sk, ?_, ?_, fun c hc => ?_⟩
  · unfold PSt.step
    cases e : st.res with
    | some v => exact P.at_
    | none =>
      cases e2 : Z.rows[st.at_]? with
      | none => exact P.at_
      | some r =>
        show st.next r < Z.rows.length
        cases q : isEnd r with
        | true =>
          cases r with
          | endr a => exact P.at_
          | _ => cases q
        | false => exact R.led _ _ e2 _ (pnext_led q)
  · unfold PSt.step
    cases e : st.res with
    | some v => show st.done ≤ n + 1; omega
    | none =>
      cases e2 : Z.rows[st.at_]? with
      | none => show st.done ≤ n + 1; omega
      | some r => show st.done + 1 ≤ n + 1; omega
  · have old := P.sz c hc
    unfold PSt.step
    cases e : st.res with
    | some v => exact old
    | none =>
      cases e2 : Z.rows[st.at_]? with
      | none => exact old
      | some r =>
        have hr := P.rok R r (List.mem_of_getElem? e2)
        show ((PSt.does Z.coming st r).shelf c.1).length = _
        cases r with
        | lay s a b =>
          show (PSt.shelf { st with sv := rpG (.inr s) ((st.shelf s).set (placeN (st.shelf s) (st.worth a)) (st.worth b)) st.sk st.sv } c.1).length = _
          rw [shelf_lay P.ok hr.1]
          by_cases q : s = c.1
          · rw [if_pos q, List.length_set, q]; exact old
          · rw [if_neg q]; exact old
        | _ => exact old
end
end Dn

/-! a plain run as it is seen -/
namespace Dn
open PySem PySem.Spec PyProof.Rows L2
structure Ob where
  at_ : Nat
  done : Nat
  hears : Nat
  box : Str → Int
  hv : Pl → Int
  gone : List Int
  res : Option Int
def fput {κ α : Type} [DecidableEq κ] (f : κ → α) (k : κ) (v : α) : κ → α := fun x => if k = x then v else f x
def Ob.worth (o : Ob) : Atm → Int
  | .n i => i
  | .x s => o.box s
def Ob.place (Z : Hst) (o : Ob) (n : Str) (a : Atm) : Nat := (o.worth a % Z.size n).toNat
def Ob.row (Z : Hst) (o : Ob) : PRow → Ob
  | .say a => { o with gone := o.gone ++ [o.worth a] }
  | .copy x a => { o with box := fput o.box x (o.worth a) }
  | .op x s a b => { o with box := fput o.box x (valS s (o.worth a) (o.worth b)) }
  | .load x c => { o with box := fput o.box x (o.hv (c, 0)) }
  | .store c a => { o with hv := fput o.hv (c, 0) (o.worth a) }
  | .take x s a => { o with box := fput o.box x (o.hv (s, o.place Z s a)) }
  | .lay s a b => { o with hv := fput o.hv (s, o.place Z s a) (o.worth b) }
  | .hear x => { o with box := fput o.box x (Z.coming.getD o.hears 0), hears := o.hears + 1 }
  | .ifr _ _ => o
  | .go _ => o
  | .endr a => { o with res := some (o.worth a) }
def Ob.next (o : Ob) : PRow → Nat
  | .ifr a n => if o.worth a = 0 then o.at_ + 1 else n
  | .go n => n
  | .endr _ => o.at_
  | _ => o.at_ + 1
def Ob.step (Z : Hst) (o : Ob) : Ob := match o.res with
  | some _ => o
  | none => match Z.rows[o.at_]? with
    | none => o
    | some r => { o.row Z r with done := o.done + 1, at_ := o.next r }
def hvOf (Z : Hst) (st : PSt) (p : Pl) : Int := if p.1 ∈ Z.cells.map (·.1) then (if p.2 = 0 then st.cell p.1 else 0) else (st.shelf p.1).getD p.2 0
def Hst.ob (Z : Hst) (st : PSt) : Ob := ⟨st.at_, st.done, st.hears, fun x => st.worth (.x x), hvOf Z st, st.gone, st.res⟩
section
variable {Z : Hst} {st : PSt} {n : Nat}
theorem ob_worth (a : Atm) : (Z.ob st).worth a = st.worth a := by cases a <;> rfl
theorem out_worth (O : st.Ok) (x y : Str) (v : Int) : (st.out x v).worth (.x y) = if x = y then v else st.worth (.x y) := by
  show (lkG (putKs st.hk (Sum.inr x : Key)) (putG st.hk st.hv (.inr x) v) (.inr y)).getD 0 = _
  rw [pn_put O.hl]
  by_cases q : x = y
  · rw [if_pos (by rw [q]), if_pos q]; rfl
  · rw [if_neg (fun e => q (Sum.inr.inj e)), if_neg q]; rfl
theorem out_box (O : st.Ok) (x : Str) (v : Int) : (fun y => (st.out x v).worth (.x y)) = fput (fun y => st.worth (.x y)) x v := by
  funext y
  rw [out_worth O]
  rfl
theorem cell_store {c c' : Str} {v : Int} (O : st.Ok) (h : hasK st.ck (.inr c) = true) : PSt.cell { st with cv := rpG (.inr c) v st.ck st.cv } c' = if c = c' then v else st.cell c' := by
  unfold PSt.cell
  show (lkG st.ck (rpG (.inr c) v st.ck st.cv) (.inr c')).getD 0 = _
  rw [pn_rp h O.cl]
  by_cases q : c = c'
  · rw [if_pos (by rw [q]), if_pos q]; rfl
  · rw [if_neg (fun e => q (Sum.inr.inj e)), if_neg q]
theorem shelf_place (P : Z.Pl st n) (R : Z.Rs) {s : Str} (hs : s ∈ Z.shelves.map (·.1)) (v : Int) : placeN (st.shelf s) v = (v % Z.size s).toNat := by
  obtain ⟨c, hc, rfl⟩ := List.mem_map.mp hs
  unfold placeN
  have h1 := P.sz c hc
  have h2 := R.i.sv c hc
  rw [h1, R.i.size_s hc, Int.toNat_of_nonneg (by omega)]
theorem obEq {s : PSt} {o : Ob} (h1 : s.at_ = o.at_) (h2 : s.done = o.done) (h3 : s.hears = o.hears) (h4 : (fun x => s.worth (.x x)) = o.box) (h5 : hvOf Z s = o.hv) (h6 : s.gone = o.gone) (h7 : s.res = o.res) : Z.ob s = o := by
  obtain ⟨a, b, c, d, e, f, g⟩ := o
  show (⟨s.at_, s.done, s.hears, fun x => s.worth (.x x), hvOf Z s, s.gone, s.res⟩ : Ob) = _
  rw [h1, h2, h3, h4, h5, h6, h7]
theorem ob_does (P : Z.Pl st n) (R : Z.Rs) {r : PRow} (hrow : Z.rows[st.at_]? = some r) : Z.ob { st.does Z.coming r with done := st.done + 1, at_ := st.next r } = { (Z.ob st).row Z r with done := (Z.ob st).done + 1, at_ := (Z.ob st).next r } := by
  have hin := R.r r (List.mem_of_getElem? hrow)
  have hok := P.rok R r (List.mem_of_getElem? hrow)
  have O := P.ok
  have hx : ∀ a, (Z.ob st).worth a = st.worth a := ob_worth
  have hn : ∀ {s : Str}, s ∈ Z.shelves.map (·.1) → s ∉ Z.cells.map (·.1) := fun {s} hs h => by
    obtain ⟨c, hc, e⟩ := List.mem_map.mp h
    obtain ⟨d, hd, e2⟩ := List.mem_map.mp hs
    exact R.i.nds.2.2 c hc d hd (e2.trans e.symm)
  cases r with
  | say a => exact obEq rfl rfl rfl rfl rfl (by show st.gone ++ [st.worth a] = (Z.ob st).gone ++ [(Z.ob st).worth a]; rw [hx]; rfl) rfl
  | copy x a => exact obEq rfl rfl rfl (by show (fun y => (st.out x (st.worth a)).worth (.x y)) = fput (fun y => st.worth (.x y)) x ((Z.ob st).worth a); rw [out_box O, hx]) rfl rfl rfl
  | op x s a b => exact obEq rfl rfl rfl (by show (fun y => (st.out x (valS s (st.worth a) (st.worth b))).worth (.x y)) = fput (fun y => st.worth (.x y)) x (valS s ((Z.ob st).worth a) ((Z.ob st).worth b)); rw [out_box O, hx, hx]) rfl rfl rfl
  | load x c =>
    have e : hvOf Z st (c, 0) = st.cell c := by
      unfold hvOf
      rw [if_pos (show c ∈ _ from hin), if_pos rfl]
    exact obEq rfl rfl rfl (by show (fun y => (st.out x (st.cell c)).worth (.x y)) = fput (fun y => st.worth (.x y)) x (hvOf Z st (c, 0)); rw [out_box O, e]) rfl rfl rfl
  | take x s a =>
    have e : hvOf Z st (s, ((Z.ob st).worth a % Z.size s).toNat) = (st.shelf s).getD (placeN (st.shelf s) (st.worth a)) 0 := by
      unfold hvOf
      rw [if_neg (hn hin.1), shelf_place P R hin.1, hx]
    exact obEq rfl rfl rfl (by show (fun y => (st.out x ((st.shelf s).getD (placeN (st.shelf s) (st.worth a)) 0)).worth (.x y)) = fput (fun y => st.worth (.x y)) x (hvOf Z st (s, ((Z.ob st).worth a % Z.size s).toNat)); rw [out_box O, e]) rfl rfl rfl
  | hear x => exact obEq rfl rfl rfl (by show (fun y => (st.out x (Z.coming.getD st.hears 0)).worth (.x y)) = fput (fun y => st.worth (.x y)) x (Z.coming.getD st.hears 0); rw [out_box O]) rfl rfl rfl
  | ifr a k => exact obEq (by show (if st.worth a = 0 then st.at_ + 1 else k) = (if (Z.ob st).worth a = 0 then st.at_ + 1 else k); rw [hx]) rfl rfl rfl rfl rfl rfl
  | go k => exact obEq rfl rfl rfl rfl rfl rfl rfl
  | endr a => exact obEq rfl rfl rfl rfl rfl rfl (by show some (st.worth a) = some ((Z.ob st).worth a); rw [hx])
  | store c a =>
    refine obEq rfl rfl rfl rfl ?_ rfl rfl
    funext p
    show hvOf Z { st with cv := rpG (.inr c) (st.worth a) st.ck st.cv, done := st.done + 1, at_ := st.at_ + 1 } p = fput (hvOf Z st) (c, 0) ((Z.ob st).worth a) p
    rw [hx]
    have ec : PSt.cell { st with cv := rpG (.inr c) (st.worth a) st.ck st.cv, done := st.done + 1, at_ := st.at_ + 1 } p.1 = if c = p.1 then st.worth a else st.cell p.1 := cell_store O hok.1
    have es : PSt.shelf { st with cv := rpG (.inr c) (st.worth a) st.ck st.cv, done := st.done + 1, at_ := st.at_ + 1 } p.1 = st.shelf p.1 := rfl
    unfold fput hvOf
    rw [ec, es]
    by_cases q : p.1 ∈ Z.cells.map (·.1)
    · rw [if_pos q, if_pos q]
      by_cases q2 : p.2 = 0
      · rw [if_pos q2, if_pos q2]
        by_cases q3 : c = p.1
        · rw [if_pos q3, if_pos (Prod.ext q3 q2.symm)]
        · rw [if_neg q3, if_neg fun e => q3 (congrArg Prod.fst e)]
      · rw [if_neg q2, if_neg q2, if_neg fun e => q2 (congrArg Prod.snd e).symm]
    · rw [if_neg q, if_neg q, if_neg fun (e : (c, 0) = p) => q (by have e1 : c = p.1 := congrArg Prod.fst e; rw [← e1]; exact hin.1)]
  | lay s a b =>
    refine obEq rfl rfl rfl rfl ?_ rfl rfl
    funext p
    show hvOf Z { st with sv := rpG (.inr s) ((st.shelf s).set (placeN (st.shelf s) (st.worth a)) (st.worth b)) st.sk st.sv, done := st.done + 1, at_ := st.at_ + 1 } p = fput (hvOf Z st) (s, ((Z.ob st).worth a % Z.size s).toNat) ((Z.ob st).worth b) p
    rw [hx, hx, ← shelf_place P R hin.1]
    have ec : PSt.shelf { st with sv := rpG (.inr s) ((st.shelf s).set (placeN (st.shelf s) (st.worth a)) (st.worth b)) st.sk st.sv, done := st.done + 1, at_ := st.at_ + 1 } p.1 = if s = p.1 then (st.shelf s).set (placeN (st.shelf s) (st.worth a)) (st.worth b) else st.shelf p.1 := shelf_lay O hok.1
    have es : PSt.cell { st with sv := rpG (.inr s) ((st.shelf s).set (placeN (st.shelf s) (st.worth a)) (st.worth b)) st.sk st.sv, done := st.done + 1, at_ := st.at_ + 1 } p.1 = st.cell p.1 := rfl
    have lt := placeN_lt (O.shelf hok.1).2.1 (st.worth a)
    unfold fput hvOf
    rw [ec, es]
    by_cases q : p.1 ∈ Z.cells.map (·.1)
    · rw [if_pos q, if_pos q, if_neg fun (e : (s, placeN (st.shelf s) (st.worth a)) = p) => hn hin.1 (by have e1 : s = p.1 := congrArg Prod.fst e; rw [e1]; exact q)]
    · rw [if_neg q, if_neg q]
      by_cases q3 : s = p.1
      · rw [if_pos q3]
        by_cases q4 : placeN (st.shelf s) (st.worth a) = p.2
        · rw [if_pos (Prod.ext q3 q4), List.getD_eq_getElem?_getD, List.getElem?_set, if_pos q4, if_pos lt]; rfl
        · rw [if_neg fun e => q4 (congrArg Prod.snd e), List.getD_eq_getElem?_getD, List.getElem?_set, if_neg q4, ← List.getD_eq_getElem?_getD, q3]
      · rw [if_neg q3, if_neg fun e => q3 (congrArg Prod.fst e)]
theorem ob_step (P : Z.Pl st n) (R : Z.Rs) : Z.ob (st.step Z.rows Z.coming) = (Z.ob st).step Z := by
  unfold Ob.step PSt.step
  show Z.ob (match st.res with | some _ => st | none => _) = (match st.res with | some _ => Z.ob st | none => _)
  cases hres : st.res with
  | some v => rfl
  | none =>
    show Z.ob (match Z.rows[st.at_]? with | none => st | some r => _) = (match Z.rows[st.at_]? with | none => Z.ob st | some r => _)
    cases hrow : Z.rows[st.at_]? with
    | none => rfl
    | some r => exact ob_does P R hrow
end
/-- the plain run, row by row -/
def Hst.prun (Z : Hst) : Nat → PSt
  | 0 => Z.pst
  | n + 1 => (Z.prun n).step Z.rows Z.coming
def Hst.run (Z : Hst) : Nat → Ob
  | 0 => Z.ob Z.pst
  | n + 1 => (Z.run n).step Z
section
variable {Z : Hst} {n m : Nat}
theorem prun_pl (R : Z.Rs) : ∀ n, Z.Pl (Z.prun n) n
  | 0 => pst_pl R
  | n + 1 => (prun_pl R n).step R
theorem prun_ob (R : Z.Rs) : ∀ n, Z.ob (Z.prun n) = Z.run n
  | 0 => rfl
  | n + 1 => by
    show Z.ob ((Z.prun n).step Z.rows Z.coming) = (Z.run n).step Z
    rw [ob_step (prun_pl R n) R, prun_ob R n]
theorem run_at (R : Z.Rs) (n : Nat) : (Z.run n).at_ < Z.rows.length := by
  rw [← prun_ob R n]
  exact (prun_pl R n).at_
theorem run_row (R : Z.Rs) (n : Nat) : ∃ r, Z.rows[(Z.run n).at_]? = some r := ⟨_, List.getElem?_eq_getElem (run_at R n)⟩
theorem run_succ {r : PRow} (h : (Z.run n).res = none) (hr : Z.rows[(Z.run n).at_]? = some r) : Z.run (n + 1) = { (Z.run n).row Z r with done := (Z.run n).done + 1, at_ := (Z.run n).next r } := by
  show (Z.run n).step Z = _
  unfold Ob.step
  rw [h]
  simp only [hr]
theorem run_stay {v : Int} (h : (Z.run n).res = some v) : Z.run (n + 1) = Z.run n := by
  show (Z.run n).step Z = _
  unfold Ob.step
  rw [h]
theorem run_ended {v : Int} (h : (Z.run n).res = some v) : ∀ k, Z.run (n + k) = Z.run n
  | 0 => rfl
  | k + 1 => by
    have ih := run_ended h k
    show Z.run (n + k + 1) = _
    rw [run_stay (v := v) (by rw [ih]; exact h), ih]
theorem run_alive (h : (Z.run n).res = none) : ∀ m, m ≤ n → (Z.run m).res = none := fun m hm => by
  cases q : (Z.run m).res with
  | none => rfl
  | some v =>
    have := run_ended q (n - m)
    rw [show m + (n - m) = n by omega] at this
    rw [this, q] at h
    cases h
theorem gone_row (o : Ob) (r : PRow) : ∃ t, (o.row Z r).gone = o.gone ++ t ∧ t.length ≤ 1 := by
  cases r with
  | say a => exact ⟨[o.worth a], rfl, Nat.le_refl _⟩
  | _ => exact ⟨[], (List.append_nil _).symm, Nat.zero_le _⟩
theorem gone_succ (R : Z.Rs) (n : Nat) : ∃ t, (Z.run (n + 1)).gone = (Z.run n).gone ++ t ∧ t.length ≤ 1 := by
  cases h : (Z.run n).res with
  | some v => exact ⟨[], by rw [run_stay h, List.append_nil], Nat.zero_le _⟩
  | none =>
    obtain ⟨r, hr⟩ := run_row R n
    rw [run_succ h hr]
    exact gone_row _ r
theorem gone_le (R : Z.Rs) : ∀ k, ∃ t, (Z.run (n + k)).gone = (Z.run n).gone ++ t ∧ t.length ≤ k
  | 0 => ⟨[], (List.append_nil _).symm, Nat.le_refl _⟩
  | k + 1 => by
    obtain ⟨t, h1, h2⟩ := gone_le R k
    obtain ⟨u, h3, h4⟩ := gone_succ R (n + k)
    exact ⟨t ++ u, by show (Z.run (n + k + 1)).gone = _; rw [h3, h1, List.append_assoc], by rw [List.length_append]; omega⟩
theorem gone_pre (R : Z.Rs) (h : n ≤ m) : ∃ t, (Z.run m).gone = (Z.run n).gone ++ t := by
  obtain ⟨t, h1, _⟩ := gone_le (n := n) R (m - n)
  rw [show n + (m - n) = m by omega] at h1
  exact ⟨t, h1⟩
theorem onext_led {o : Ob} {r : PRow} (he : isEnd r = false) : o.next r ∈ r.led o.at_ := by
  cases r with
  | ifr a n =>
    show (if o.worth a = 0 then o.at_ + 1 else n) ∈ [n, o.at_ + 1]
    split
    · exact List.mem_cons_of_mem _ List.mem_cons_self
    · exact List.mem_cons_self
  | endr a => cases he
  | _ => exact List.mem_cons_self
end
end Dn

/-! a house with failings, against the plain run -/
namespace Dn
open PySem PySem.Spec PyProof.Rows L2
def Atm.bx : Atm → List Str
  | .n _ => []
  | .x s => [s]
def PRow.rds : PRow → List Str
  | .say a => a.bx
  | .copy _ a => a.bx
  | .op _ _ a b => a.bx ++ b.bx
  | .load _ _ => []
  | .store _ a => a.bx
  | .take _ _ a => a.bx
  | .lay _ a b => a.bx ++ b.bx
  | .hear _ => []
  | .ifr a _ => a.bx
  | .go _ => []
  | .endr a => a.bx
def PRow.sets : PRow → Option Str
  | .copy x _ => some x
  | .op x _ _ _ => some x
  | .load x _ => some x
  | .take x _ _ => some x
  | .hear x => some x
  | _ => none
def PRow.getsT : PRow → Option Str
  | .load _ c => some c
  | .take _ s _ => some s
  | _ => none
def PRow.putsT : PRow → Option Str
  | .store c _ => some c
  | .lay s _ _ => some s
  | _ => none
def putsAt (Z : Hst) (o : Ob) : PRow → Option Pl
  | .store c _ => some (c, 0)
  | .lay s a _ => some (s, o.place Z s a)
  | _ => none
/-- what is asked of a cutting -/
structure Holds (Z : Hst) (Nd : Nat → Str → Prop) : Prop where
  n1 : ∀ i r b, Z.rows[i]? = some r → b ∈ r.rds → Nd i b
  n2 : ∀ i r j b, Z.rows[i]? = some r → j ∈ r.led i → Nd j b → r.sets ≠ some b → Nd i b
  nb : ∀ b, Nd 0 b → b ∈ Z.beg
  nk : ∀ i bs b, agt Z.keepsL i = some bs → Nd i b → b ∈ bs
  ends : ∀ i r, Z.rows[i]? = some r → isEnd r = true → ∃ bs, agt Z.keepsL i = some bs
  sp : ∀ (f : Nat → Nat) (i n : Nat) (c : Str), Z.twin c = false → (f 0 = 0 ∨ ∃ bs, agt Z.keepsL (f 0) = some bs) → (∀ k, k < n → ∃ r, Z.rows[f k]? = some r ∧ f (k + 1) ∈ r.led (f k)) →
    (∀ k, 0 < k → k ≤ n → agt Z.keepsL (f k) = none) → i < n → (∃ r, Z.rows[f i]? = some r ∧ r.getsT = some c) → (∃ r, Z.rows[f n]? = some r ∧ r.putsT = some c) → ∃ k, k < i ∧ ∃ a, Z.rows[f k]? = some (.store c a)
def PutsAt (Z : Hst) (k : Nat) (p : Pl) : Prop := ∃ r, Z.rows[(Z.run k).at_]? = some r ∧ putsAt Z (Z.run k) r = some p
/-- a page tells the plain run behind n0 rows -/
structure Pgo (Z : Hst) (Nd : Nat → Str → Prop) (p : Pg) (n0 : Nat) : Prop where
  al : (Z.run n0).res = none
  row : (Z.run n0).at_ = p.row
  dn : p.done = n0
  he : p.hears = (Z.run n0).hears
  sa : p.says = (Z.run n0).gone.length
  bx : ∀ b, Nd p.row b → agt (dictL p.held) b = some ((Z.run n0).box b)
  nd : (p.turned.map (·.1)).Nodup
  tk : ∀ q ∈ p.turned, Z.twin q.1.1 = true
  st : p.row = 0 ∨ ∃ bs, agt Z.keepsL p.row = some bs
/-- what stays, and how far it was -/
structure Com (Z : Hst) (Nd : Nat → Str → Prop) (h : Hs) (n0 M X : Nat) : Prop where
  pg : Pgo Z Nd (h.page h.front) n0
  tw : ∀ p, Z.IsP p → Z.twin p.1 = true → (agt (h.page h.front).turned p).getD (h.homeV p) = (Z.run n0).hv p
  nM : n0 ≤ M
  mX : M ≤ X
  mal : (Z.run M).res = none
  pa : ∀ k, n0 < k → k < M → agt Z.keepsL (Z.run k).at_ = none
  le : h.letters = (Z.run X).gone
  re : h.rent = false
structure UpOk (Z : Hst) (h : Hs) (n0 M k : Nat) : Prop where
  nt : ∀ p, Z.IsP p → Z.twin p.1 = false → ∃ j, n0 ≤ j ∧ j ≤ M ∧ h.homeV p = (Z.run j).hv p
  tu : ∀ i q, i < k → (h.page h.front).turned[i]? = some q → h.homeV q.1 = q.2
  kl : k ≤ (h.page h.front).turned.length
  lg : h.log = []
structure GoOk (Z : Hst) (Nd : Nat → Str → Prop) (h : Hs) (n0 n M : Nat) : Prop where
  al : (Z.run n).res = none
  dn : h.done = n
  he : h.hears = (Z.run n).hears
  sa : h.says = (Z.run n).gone.length
  bx : ∀ b, Nd (Z.run n).at_ b → h.worth (.x b) = (Z.run n).box b
  hm : ∀ p, Z.IsP p → Z.twin p.1 = true → h.homeV p = (Z.run n0).hv p
  lg : ∀ p, Z.IsP p → Z.twin p.1 = true → (agt h.log p).getD (h.homeV p) = (Z.run n).hv p
  lt : ∀ q ∈ h.log, Z.twin q.1.1 = true
  kp : n0 < n → agt Z.keepsL (Z.run n).at_ = none
  nt : ∀ p, Z.IsP p → Z.twin p.1 = false → ((∃ k, n0 ≤ k ∧ k < n ∧ PutsAt Z k p) ∧ h.homeV p = (Z.run n).hv p) ∨ ((∀ k, n0 ≤ k → k < n → ¬ PutsAt Z k p) ∧ ∃ j, n0 ≤ j ∧ j ≤ M ∧ h.homeV p = (Z.run j).hv p)
section
variable {Z : Hst} {Nd : Nat → Str → Prop} {h : Hs} {n0 n M X N : Nat}
theorem hv_row {o : Ob} {r : PRow} {p : Pl} (hp : putsAt Z o r ≠ some p) : (o.row Z r).hv p = o.hv p := by
  cases r with
  | store c a => exact if_neg fun e => hp (congrArg some e)
  | lay s a b => exact if_neg fun e => hp (congrArg some e)
  | _ => rfl
theorem hv_succ (R : Z.Rs) {k : Nat} {p : Pl} (hp : ¬ PutsAt Z k p) : (Z.run (k + 1)).hv p = (Z.run k).hv p := by
  cases q : (Z.run k).res with
  | some v => rw [run_stay q]
  | none =>
    obtain ⟨r, hr⟩ := run_row R k
    rw [run_succ q hr]
    exact hv_row fun e => hp ⟨r, hr, e⟩
theorem hv_const (R : Z.Rs) {p : Pl} {a : Nat} : ∀ (m : Nat), (∀ k, a ≤ k → k < a + m → ¬ PutsAt Z k p) → (Z.run (a + m)).hv p = (Z.run a).hv p
  | 0, _ => rfl
  | m + 1, hk => by
    show (Z.run (a + m + 1)).hv p = _
    rw [hv_succ R (hk (a + m) (by omega) (by omega)), hv_const R m fun k h1 h2 => hk k h1 (by omega)]
theorem run_led (R : Z.Rs) {k : Nat} (h : (Z.run (k + 1)).res = none) : ∃ r, Z.rows[(Z.run k).at_]? = some r ∧ isEnd r = false ∧ (Z.run (k + 1)).at_ ∈ r.led (Z.run k).at_ := by
  have h0 := run_alive h k (Nat.le_succ k)
  obtain ⟨r, hr⟩ := run_row R k
  have e := run_succ h0 hr
  have ne : isEnd r = false := by
    cases r with
    | endr a => rw [e] at h; cases h
    | _ => rfl
  refine ⟨r, hr, ne, ?_⟩
  rw [e]
  exact onext_led ne
theorem apt_homeV {p q : Pl} {v : Int} : ({ h with home := apt h.home q v } : Hs).homeV p = if q = p then v else h.homeV p := by
  show (agt (apt h.home q v) p).getD 0 = _
  rw [agt_apt]
  by_cases e : q = p
  · rw [if_pos e, if_pos e]; rfl
  · rw [if_neg e, if_neg e]; rfl
/-- the atoms that a row reads are right -/
theorem atm_ok (H : Holds Z Nd) (G : GoOk Z Nd h n0 n M) {r : PRow} (hr : Z.rows[(Z.run n).at_]? = some r) (a : Atm) (ha : ∀ s ∈ a.bx, s ∈ r.rds) : h.worth a = (Z.run n).worth a := by
  cases a with
  | n i => rfl
  | x s => exact G.bx s (H.n1 _ r s hr (ha s (List.mem_singleton.mpr rfl)))
/-- what a row loads or takes of no twin is right -/
theorem rd_ok (R : Z.Rs) (H : Holds Z Nd) (C : Com Z Nd h n0 M X) (G : GoOk Z Nd h n0 n M) (hn0 : n0 ≤ n) (hnM : n ≤ M) {r : PRow} (hr : Z.rows[(Z.run n).at_]? = some r) {p : Pl} (hp : Z.IsP p) (ht : Z.twin p.1 = false) (hg : r.getsT = some p.1)
    (hc : ∀ k a, Z.rows[(Z.run k).at_]? = some (.store p.1 a) → PutsAt Z k p) : h.homeV p = (Z.run n).hv p := by
  rcases G.nt p hp ht with ⟨_, e⟩ | ⟨no, j, j1, j2, e⟩
  · exact e
  · rw [e]
    rcases Nat.le_or_ge j n with q | q
    · have := hv_const R (p := p) (a := j) (n - j) fun k k1 k2 => no k (by omega) (by omega)
      rw [show j + (n - j) = n by omega] at this
      exact this.symm
    · have := hv_const R (p := p) (a := n) (j - n) fun k k1 k2 ⟨rk, hrk, hpk⟩ => by
        have hT : rk.putsT = some p.1 := by
          cases rk with
          | store c a => exact congrArg some (congrArg Prod.fst (Option.some.inj hpk))
          | lay s a b => exact congrArg some (congrArg Prod.fst (Option.some.inj hpk))
          | _ => cases hpk
        have hnk : n ≠ k := fun z => by
          subst z
          rw [hr] at hrk
          cases hrk
          cases r <;> first | cases hg; done | cases hT
        obtain ⟨k', h1, a, h2⟩ := H.sp (fun i => (Z.run (n0 + i)).at_) (n - n0) (k - n0) p.1 ht (by
            show (Z.run n0).at_ = 0 ∨ ∃ bs, agt Z.keepsL (Z.run n0).at_ = some bs
            rw [C.pg.row]
            exact C.pg.st)
          (fun i hi => by
            obtain ⟨r', e1, _, e2⟩ := run_led R (k := n0 + i) (run_alive C.mal _ (by omega))
            exact ⟨r', e1, e2⟩)
          (fun i i0 hi => C.pa (n0 + i) (by omega) (by omega)) (by omega) (by rw [show n0 + (n - n0) = n by omega]; exact ⟨r, hr, hg⟩) (by rw [show n0 + (k - n0) = k by omega]; exact ⟨rk, hrk, hT⟩)
        exact no (n0 + k') (by omega) (by omega) (hc _ a h2)
      rw [show n + (j - n) = j by omega] at this
      exact this
end
end Dn

/-! a row done by a house with failings -/
namespace Dn
open PySem PySem.Spec PyProof.Rows L2
structure Rowd (Z : Hst) (h h1 : Hs) (n0 n M X : Nat) (r : PRow) : Prop where
  w : ∀ b, (r.sets = some b ∨ (r.sets ≠ some b ∧ h.worth (.x b) = (Z.run n).box b)) → h1.worth (.x b) = (Z.run (n + 1)).box b
  dn : h1.done = n + 1
  he : h1.hears = (Z.run (n + 1)).hears
  sa : h1.says = (Z.run (n + 1)).gone.length
  hm : ∀ p, Z.IsP p → Z.twin p.1 = true → h1.homeV p = h.homeV p
  lg : ∀ p, Z.IsP p → Z.twin p.1 = true → (agt h1.log p).getD (h1.homeV p) = (Z.run (n + 1)).hv p
  lt : ∀ q ∈ h1.log, Z.twin q.1.1 = true
  nt : ∀ p, Z.IsP p → Z.twin p.1 = false → ((∃ k, n0 ≤ k ∧ k < n + 1 ∧ PutsAt Z k p) ∧ h1.homeV p = (Z.run (n + 1)).hv p) ∨ ((∀ k, n0 ≤ k → k < n + 1 → ¬ PutsAt Z k p) ∧ ∃ j, n0 ≤ j ∧ j ≤ M ∧ h1.homeV p = (Z.run j).hv p)
  pg : h1.p0 = h.p0 ∧ h1.p1 = h.p1 ∧ h1.front = h.front
  le : h1.letters = (Z.run (max X (n + 1))).gone
  re : h1.rent = false
  nx : isEnd r = false → h.next (Z.run n).at_ r = (Z.run n).next r
  fi : isEnd r = true → h1.fin = (Z.run (n + 1)).res
section
variable {Z : Hst} {Nd : Nat → Str → Prop} {h : Hs} {n0 n M X N : Nat}
theorem nt_ext (R : Z.Rs) (G : GoOk Z Nd h n0 n M) {h1 : Hs} {p : Pl} (hp : Z.IsP p) (ht : Z.twin p.1 = false) (e : h1.homeV p = h.homeV p) (hn : ¬ PutsAt Z n p) :
    ((∃ k, n0 ≤ k ∧ k < n + 1 ∧ PutsAt Z k p) ∧ h1.homeV p = (Z.run (n + 1)).hv p) ∨ ((∀ k, n0 ≤ k → k < n + 1 → ¬ PutsAt Z k p) ∧ ∃ j, n0 ≤ j ∧ j ≤ M ∧ h1.homeV p = (Z.run j).hv p) := by
  rcases G.nt p hp ht with ⟨⟨k, k1, k2, k3⟩, e2⟩ | ⟨no, j, j1, j2, e2⟩
  · exact .inl ⟨⟨k, k1, by omega, k3⟩, by rw [e, e2, hv_succ R hn]⟩
  · refine .inr ⟨fun k k1 k2 => ?_, j, j1, j2, by rw [e, e2]⟩
    rcases Nat.lt_or_ge k n with q | q
    · exact no k k1 q
    · rw [show k = n by omega]; exact hn
theorem le_same (R : Z.Rs) (C : Com Z Nd h n0 M X) (hnM : n ≤ M) (hal : (Z.run n).res = none) {r : PRow} (hr : Z.rows[(Z.run n).at_]? = some r) (hg : ((Z.run n).row Z r).gone = (Z.run n).gone) {h1 : Hs} (e : h1.bn = h.bn) : h1.letters = (Z.run (max X (n + 1))).gone := by
  have e1 : h1.letters = (Z.run X).gone := by
    unfold Hs.letters
    rw [e]
    exact C.le
  have mX := C.mX
  rw [e1]
  rcases Nat.lt_or_ge X (n + 1) with q | q
  · have ex : X = n := by omega
    rw [Nat.max_eq_right (by omega), run_succ hal hr, ex]
    exact hg.symm
  · rw [Nat.max_eq_left q]
theorem isP_ne {p q : Pl} (h1 : Z.twin p.1 = true) (h2 : Z.twin q.1 = false) : p ≠ q := fun e => by
  rw [e, h2] at h1
  cases h1
/-- a row that puts nothing at a place -/
theorem rowd_of (R : Z.Rs) (C : Com Z Nd h n0 M X) (G : GoOk Z Nd h n0 n M) (hnM : n ≤ M) {r : PRow} (hr : Z.rows[(Z.run n).at_]? = some r) {h1 : Hs} (hp : ∀ p, putsAt Z (Z.run n) r ≠ some p)
    (w : ∀ b, (r.sets = some b ∨ (r.sets ≠ some b ∧ h.worth (.x b) = (Z.run n).box b)) → h1.worth (.x b) = ((Z.run n).row Z r).box b) (dn : h1.done = n + 1) (he : h1.hears = ((Z.run n).row Z r).hears) (sa : h1.says = ((Z.run n).row Z r).gone.length)
    (hm : h1.home = h.home) (lg : h1.log = h.log) (pg : h1.p0 = h.p0 ∧ h1.p1 = h.p1 ∧ h1.front = h.front) (le : h1.letters = (Z.run (max X (n + 1))).gone) (re : h1.rent = false) (nx : isEnd r = false → h.next (Z.run n).at_ r = (Z.run n).next r) (fi : isEnd r = true → h1.fin = ((Z.run n).row Z r).res) : Rowd Z h h1 n0 n M X r := by
  have e1 := run_succ G.al hr
  have np : ∀ p, ¬ PutsAt Z n p := fun p ⟨r', hr', hp'⟩ => by
    rw [hr] at hr'
    cases hr'
    exact hp p hp'
  have hv : ∀ p, h1.homeV p = h.homeV p := fun p => by unfold Hs.homeV; rw [hm]
  refine ⟨fun b hb => ?_, dn, ?_, ?_, fun p _ _ => hv p, fun p h2 h3 => ?_, ?_, fun p h2 h3 => nt_ext R G h2 h3 (hv p) (np p), pg, le, re, nx, fun hq => ?_⟩
  · rw [e1]; exact w b hb
  · rw [e1]; exact he
  · rw [e1]; exact sa
  · rw [lg, hv, G.lg p h2 h3, hv_succ R (np p)]
  · rw [lg]; exact G.lt
  · rw [e1]; exact fi hq
/-- a row that puts a value at a place -/
theorem rowd_put (R : Z.Rs) (C : Com Z Nd h n0 M X) (G : GoOk Z Nd h n0 n M) (hn0 : n0 ≤ n) (hnM : n ≤ M) {r : PRow} (hr : Z.rows[(Z.run n).at_]? = some r) {q : Pl} {v : Int} (hq : Z.IsP q) (hp : putsAt Z (Z.run n) r = some q) (hs : r.sets = none) (he : isEnd r = false)
    (hv : ((Z.run n).row Z r).hv = fput (Z.run n).hv q v) (hb : ((Z.run n).row Z r).box = (Z.run n).box) (hh : ((Z.run n).row Z r).hears = (Z.run n).hears) (hg : ((Z.run n).row Z r).gone = (Z.run n).gone) (nx : isEnd r = false → h.next (Z.run n).at_ r = (Z.run n).next r) :
    Rowd Z h (({ h with done := h.done + 1 } : Hs).written Z q v) n0 n M X r := by
  have e1 := run_succ G.al hr
  have pn : PutsAt Z n q := ⟨r, hr, hp⟩
  have np : ∀ p, q ≠ p → ¬ PutsAt Z n p := fun p hne ⟨r', hr', hp'⟩ => by
    rw [hr] at hr'
    cases hr'
    rw [hp] at hp'
    exact hne (Option.some.inj hp')
  have hv1 : ∀ p, (Z.run (n + 1)).hv p = if q = p then v else (Z.run n).hv p := fun p => by
    rw [e1]
    show ((Z.run n).row Z r).hv p = _
    rw [hv]; rfl
  have bn : ∀ h1 : Hs, h1.bn = h.bn → h1.letters = (Z.run (max X (n + 1))).gone := fun h1 e => le_same R C hnM G.al hr hg e
  have wb : ∀ b, (r.sets = some b ∨ (r.sets ≠ some b ∧ h.worth (.x b) = (Z.run n).box b)) → h.worth (.x b) = (Z.run (n + 1)).box b := fun b hb2 => by
    rw [e1]
    show h.worth (.x b) = ((Z.run n).row Z r).box b
    rw [hb]
    rcases hb2 with z | z
    · rw [hs] at z; cases z
    · exact z.2
  have he1 : h.hears = (Z.run (n + 1)).hears := by rw [e1, G.he]; exact hh.symm
  have sa1 : h.says = (Z.run (n + 1)).gone.length := by
    rw [e1, G.sa]
    show _ = ((Z.run n).row Z r).gone.length
    rw [hg]
  have ne : ¬ isEnd r = true := by rw [he]; decide
  unfold Hs.written
  by_cases ht : Z.twin q.1 = true
  · rw [if_pos ht]
    refine ⟨wb, congrArg (· + 1) G.dn, he1, sa1, fun p _ _ => rfl, fun p h2 h3 => ?_, apt_mem (P := fun (q : Pl × Int) => Z.twin q.1.1 = true) G.lt ht, fun p h2 h3 => nt_ext R G h2 h3 rfl (np p (isP_ne ht h3)), ⟨rfl, rfl, rfl⟩, bn _ rfl, C.re, nx, fun z => absurd z ne⟩
    show (agt (apt h.log q v) p).getD (h.homeV p) = _
    rw [hv1, agt_apt]
    by_cases z : q = p
    · rw [if_pos z, if_pos z]; rfl
    · rw [if_neg z, if_neg z]; exact G.lg p h2 h3
  · have ht := Bool.eq_false_iff.mpr ht
    rw [if_neg (by rw [ht]; decide)]
    have hV : ∀ p, ({ h with done := h.done + 1, home := apt h.home q v } : Hs).homeV p = if q = p then v else h.homeV p := fun p => apt_homeV
    refine ⟨wb, congrArg (· + 1) G.dn, he1, sa1, fun p _ h3 => ?_, fun p h2 h3 => ?_, G.lt, fun p h2 h3 => ?_, ⟨rfl, rfl, rfl⟩, bn _ rfl, C.re, nx, fun z => absurd z ne⟩
    · rw [hV, if_neg (isP_ne h3 ht).symm]
    · show (agt h.log p).getD (({ h with done := h.done + 1, home := apt h.home q v } : Hs).homeV p) = _
      rw [hV, if_neg (isP_ne h3 ht).symm, G.lg p h2 h3, hv1, if_neg (isP_ne h3 ht).symm]
    · by_cases z : q = p
      · refine .inl ⟨⟨n, hn0, Nat.lt_succ_self n, z ▸ pn⟩, ?_⟩
        rw [hV, hv1, if_pos z, if_pos z]
      · exact nt_ext R G h2 h3 (by rw [hV, if_neg z]) (np p z)
theorem worth_out (h : Hs) (x b : Str) (v : Int) : (h.out x v).worth (.x b) = if x = b then v else h.worth (.x b) := by
  show (agt (apt h.held x v) b).getD h.dust = _
  rw [agt_apt]
  by_cases q : x = b
  · rw [if_pos q, if_pos q]; rfl
  · rw [if_neg q, if_neg q]; rfl
/-- all rows -/
theorem go_row (R : Z.Rs) (H : Holds Z Nd) (Y : h.Sy) (C : Com Z Nd h n0 M X) (G : GoOk Z Nd h n0 n M) (hn0 : n0 ≤ n) (hnM : n ≤ M) {r : PRow} (hr : Z.rows[(Z.run n).at_]? = some r) : Rowd Z h (Hs.row Z { h with done := h.done + 1 } r) n0 n M X r := by
  have hin := R.r r (List.mem_of_getElem? hr)
  have aw : ∀ a, (∀ s ∈ a.bx, s ∈ r.rds) → h.worth a = (Z.run n).worth a := fun a ha => atm_ok H G hr a ha
  have dn1 : h.done + 1 = n + 1 := congrArg (· + 1) G.dn
  have pgr : h.p0 = h.p0 ∧ h.p1 = h.p1 ∧ h.front = h.front := ⟨rfl, rfl, rfl⟩
  have cellP : ∀ {c : Str}, c ∈ Z.cells.map (·.1) → Z.IsP (c, 0) := fun {c} hc => by
    obtain ⟨x, hx, rfl⟩ := List.mem_map.mp hc
    exact (R.i.cell hx).pl
  have plc : ∀ {s : Str} {a : Atm}, s ∈ Z.shelves.map (·.1) → h.worth a = (Z.run n).worth a → h.place Z s a = (Z.run n).place Z s a ∧ Z.IsP (s, (Z.run n).place Z s a) := fun {s a} hs hw => by
    obtain ⟨x, hx, rfl⟩ := List.mem_map.mp hs
    have e : h.place Z x.1 a = (Z.run n).place Z x.1 a := by unfold Hs.place Ob.place; rw [hw]
    refine ⟨e, ?_⟩
    rw [← e]
    exact (R.i.shelf hx).pl _ (place_lt (R.i.shelf hx)).2
  have seen : ∀ {p : Pl}, Z.IsP p → (Z.twin p.1 = false → h.homeV p = (Z.run n).hv p) → h.seen Z p = (Z.run n).hv p := fun {p} hp hnt => by
    unfold Hs.seen
    by_cases q : Z.twin p.1 = true
    · rw [if_pos q]; exact G.lg p hp q
    · rw [if_neg q]; exact hnt (Bool.eq_false_iff.mpr q)
  -- rows that set a box
  have outc : ∀ {x : Str} {v : Int} {h1 : Hs}, r.sets = some x → ((Z.run n).row Z r).box = fput (Z.run n).box x v → (∀ b, h1.worth (.x b) = if x = b then v else h.worth (.x b)) → ∀ b, (r.sets = some b ∨ (r.sets ≠ some b ∧ h.worth (.x b) = (Z.run n).box b)) → h1.worth (.x b) = ((Z.run n).row Z r).box b := fun {x v h1} hx hb hw b hbb => by
    rw [hw, hb]
    show _ = if x = b then v else (Z.run n).box b
    by_cases z : x = b
    · rw [if_pos z, if_pos z]
    · rw [if_neg z, if_neg z]
      rcases hbb with y | y
      · rw [hx] at y; exact absurd (Option.some.inj y) z
      · exact y.2
  have noset : ∀ {h1 : Hs}, r.sets = none → ((Z.run n).row Z r).box = (Z.run n).box → (∀ b, h1.worth (.x b) = h.worth (.x b)) → ∀ b, (r.sets = some b ∨ (r.sets ≠ some b ∧ h.worth (.x b) = (Z.run n).box b)) → h1.worth (.x b) = ((Z.run n).row Z r).box b := fun {h1} hx hb hw b hbb => by
    rw [hw, hb]
    rcases hbb with y | y
    · rw [hx] at y; cases y
    · exact y.2
  have les : ∀ {h1 : Hs}, ((Z.run n).row Z r).gone = (Z.run n).gone → h1.bn = h.bn → h1.letters = (Z.run (max X (n + 1))).gone := fun {h1} hg e => le_same R C hnM G.al hr hg e
  cases r with
  | copy x a =>
    have ea := aw a fun s hs => hs
    exact rowd_of R C G hnM hr (fun p z => nomatch z) (outc (v := (Z.run n).worth a) rfl rfl fun b => by rw [← ea]; exact worth_out _ x b _) dn1 G.he G.sa rfl rfl pgr (les rfl rfl) C.re (fun _ => rfl) (fun z => nomatch z)
  | op x s a b =>
    have ea := aw a fun s hs => List.mem_append_left _ hs
    have eb := aw b fun s hs => List.mem_append_right _ hs
    exact rowd_of R C G hnM hr (fun p z => nomatch z) (outc (v := valS s ((Z.run n).worth a) ((Z.run n).worth b)) rfl rfl fun y => by rw [← ea, ← eb]; exact worth_out _ x y _) dn1 G.he G.sa rfl rfl pgr (les rfl rfl) C.re (fun _ => rfl) (fun z => nomatch z)
  | load x c =>
    have hP := cellP (show c ∈ _ from hin)
    have es : h.seen Z (c, 0) = (Z.run n).hv (c, 0) := seen hP fun ht => rd_ok R H C G hn0 hnM hr hP ht rfl fun k a hk => ⟨_, hk, rfl⟩
    exact rowd_of R C G hnM hr (fun p z => nomatch z) (outc (v := (Z.run n).hv (c, 0)) rfl rfl fun y => by rw [← es]; exact worth_out _ x y _) dn1 G.he G.sa rfl rfl pgr (les rfl rfl) C.re (fun _ => rfl) (fun z => nomatch z)
  | take x s a =>
    have ea := aw a fun s hs => hs
    obtain ⟨ep, hP⟩ := plc hin.1 ea
    have hnc : s ∉ Z.cells.map (·.1) := fun h => by
      obtain ⟨c, hc, e⟩ := List.mem_map.mp h
      obtain ⟨d, hd, e2⟩ := List.mem_map.mp hin.1
      exact R.i.nds.2.2 c hc d hd (e2.trans e.symm)
    have es : h.seen Z (s, (Z.run n).place Z s a) = (Z.run n).hv (s, (Z.run n).place Z s a) := seen hP fun ht => rd_ok R H C G hn0 hnM hr hP ht rfl fun k b hk => absurd (R.r _ (List.mem_of_getElem? hk)).1 hnc
    exact rowd_of R C G hnM hr (fun p z => nomatch z) (outc (v := (Z.run n).hv (s, (Z.run n).place Z s a)) rfl rfl fun y => by
      rw [← es, ← ep]; exact worth_out _ x y _) dn1 G.he G.sa rfl rfl pgr (les rfl rfl) C.re (fun _ => rfl) (fun z => nomatch z)
  | hear x => exact rowd_of R C G hnM hr (fun p z => nomatch z) (outc (v := Z.coming.getD (Z.run n).hears 0) rfl rfl fun y => by rw [← G.he]; exact worth_out _ x y _) dn1 (congrArg (· + 1) G.he) G.sa rfl rfl pgr (les rfl rfl) C.re (fun _ => rfl) (fun z => nomatch z)
  | ifr a k =>
    have ea := aw a fun s hs => hs
    exact rowd_of R C G hnM hr (fun p z => nomatch z) (noset rfl rfl fun b => rfl) dn1 G.he G.sa rfl rfl pgr (les rfl rfl) C.re (fun _ => by show (if h.worth a = 0 then _ else _) = (if (Z.run n).worth a = 0 then _ else _); rw [ea]) (fun z => nomatch z)
  | go k => exact rowd_of R C G hnM hr (fun p z => nomatch z) (noset rfl rfl fun b => rfl) dn1 G.he G.sa rfl rfl pgr (les rfl rfl) C.re (fun _ => rfl) (fun z => nomatch z)
  | endr a =>
    have ea := aw a fun s hs => hs
    exact rowd_of R C G hnM hr (fun p z => nomatch z) (noset rfl rfl fun b => rfl) dn1 G.he G.sa rfl rfl pgr (les rfl rfl) C.re (fun z => nomatch z) (fun _ => by show some (h.worth a) = some ((Z.run n).worth a); rw [ea])
  | say a =>
    have ea := aw a fun s hs => hs
    have hrow : ((Z.run n).row Z (.say a)).gone = (Z.run n).gone ++ [h.worth a] := by rw [ea]; rfl
    have e1 := run_succ G.al hr
    have mX := C.mX
    have key : agt h.bn h.says = (if X = n then none else some (h.worth a)) := by
      rw [agt_range Y.k]
      have el : (h.bn[h.says]?).map (·.2) = h.letters[h.says]? := by unfold Hs.letters; rw [List.getElem?_map]
      rw [el, C.le]
      by_cases q : X = n
      · rw [if_pos q, q, G.sa, List.getElem?_eq_none (Nat.le_refl _)]
      · rw [if_neg q]
        obtain ⟨t, et⟩ := gone_pre (n := n + 1) (m := X) R (by omega)
        rw [et, e1]
        show (((Z.run n).row Z (.say a)).gone ++ t)[h.says]? = _
        rw [hrow, G.sa, List.append_assoc, List.getElem?_append_right (Nat.le_refl _), Nat.sub_self]
        rfl
    have sa1 : h.says + 1 = ((Z.run n).row Z (.say a)).gone.length := by rw [hrow, List.length_append, G.sa]; rfl
    have say_eq : Hs.row Z { h with done := h.done + 1 } (.say a) = (match agt h.bn h.says with
      | none => { h with done := h.done + 1, bn := apt h.bn h.says (h.worth a), says := h.says + 1 }
      | some u => { h with done := h.done + 1, rent := h.rent || !decide (u = h.worth a), says := h.says + 1 }) := by
      show Hs.say { h with done := h.done + 1 } (h.worth a) = _
      unfold Hs.say
      show (match agt h.bn h.says with | none => _ | some u => _) = _
      cases agt h.bn h.says <;> rfl
    rw [say_eq, key]
    by_cases q : X = n
    · rw [if_pos q]
      refine rowd_of R C G hnM hr (fun p z => nomatch z) (noset rfl rfl fun b => rfl) dn1 G.he sa1 rfl rfl pgr ?_ C.re (fun _ => rfl) (fun z => nomatch z)
      rw [q, Nat.max_eq_right (Nat.le_succ n), e1]
      show (apt h.bn h.says (h.worth a)).map (·.2) = ((Z.run n).row Z (.say a)).gone
      rw [if_pos q] at key
      have hn : ahas h.bn h.says = false := agt_none.mp key
      have ea2 : apt h.bn h.says (h.worth a) = h.bn ++ [(h.says, h.worth a)] := by
        unfold apt
        rw [if_neg (by rw [hn]; decide)]
      rw [ea2, List.map_append, hrow, ← q, ← C.le]
      rfl
    · rw [if_neg q]
      refine rowd_of R C G hnM hr (fun p z => nomatch z) (noset rfl rfl fun b => rfl) dn1 G.he sa1 rfl rfl pgr ?_ ?_ (fun _ => rfl) (fun z => nomatch z)
      · rw [Nat.max_eq_left (by omega)]
        exact C.le
      · show (h.rent || !decide (h.worth a = h.worth a)) = false
        rw [C.re, decide_eq_true rfl]; rfl
  | store c a =>
    have ea := aw a fun s hs => hs
    have hP := cellP hin.1
    have e : Hs.row Z { h with done := h.done + 1 } (.store c a) = ({ h with done := h.done + 1 } : Hs).written Z (c, 0) ((Z.run n).worth a) := by rw [← ea]; rfl
    rw [e]
    exact rowd_put R C G hn0 hnM hr hP rfl rfl rfl rfl rfl rfl rfl (fun _ => rfl)
  | lay s a b =>
    have ea := aw a fun s hs => List.mem_append_left _ hs
    have eb := aw b fun s hs => List.mem_append_right _ hs
    obtain ⟨ep, hP⟩ := plc hin.1 ea
    have e : Hs.row Z { h with done := h.done + 1 } (.lay s a b) = ({ h with done := h.done + 1 } : Hs).written Z (s, (Z.run n).place Z s a) ((Z.run n).worth b) := by rw [← eb, ← ep]; rfl
    rw [e]
    exact rowd_put R C G hn0 hnM hr hP rfl rfl rfl rfl rfl rfl rfl (fun _ => rfl)
end
end Dn

/-! a house with failings keeps to the plain run -/
namespace Dn
open PySem PySem.Spec PyProof.Rows L2
/-! ### writing down, by parts -/
structure Like (g h : Hs) : Prop where
  fr : g.front = h.front
  pg : g.page g.front = h.page h.front
  hm : g.home = h.home
  bn : g.bn = h.bn
  re : g.rent = h.rent
  he : g.held = h.held
  du : g.dust = h.dust
  lo : g.log = h.log
  dn : g.done = h.done
  hs : g.hears = h.hears
  sa : g.says = h.says
theorem Like.refl (h : Hs) : Like h h := ⟨rfl, rfl, rfl, rfl, rfl, rfl, rfl, rfl, rfl, rfl, rfl⟩
theorem Like.trans {a b c : Hs} (x : Like a b) (y : Like b c) : Like a c := ⟨x.fr.trans y.fr, x.pg.trans y.pg, x.hm.trans y.hm, x.bn.trans y.bn, x.re.trans y.re, x.he.trans y.he, x.du.trans y.du, x.lo.trans y.lo, x.dn.trans y.dn, x.hs.trans y.hs, x.sa.trans y.sa⟩
/-! ### the relation -/
structure ArOk (Z : Hst) (Nd : Nat → Str → Prop) (h : Hs) (n0 n : Nat) : Prop where
  al : (Z.run n).res = none
  dn : h.done = n
  he : h.hears = (Z.run n).hears
  sa : h.says = (Z.run n).gone.length
  bx : ∀ b, Nd (Z.run n).at_ b → h.worth (.x b) = (Z.run n).box b
  lg : ∀ p, Z.IsP p → Z.twin p.1 = true → (agt h.log p).getD (h.homeV p) = (Z.run n).hv p
  lt : ∀ q ∈ h.log, Z.twin q.1.1 = true
  ln : (h.log.map (·.1)).Nodup
  nt : ∀ p, Z.IsP p → Z.twin p.1 = false → h.homeV p = (Z.run n).hv p
structure RestOk (Z : Hst) (h : Hs) (M : Nat) : Prop where
  al : (Z.run M).res = none
  fi : h.fin = (Z.run (M + 1)).res
  so : (Z.run (M + 1)).res.isSome = true
  hv : ∀ p, Z.IsP p → h.homeV p = (Z.run (M + 1)).hv p
  le : h.letters = (Z.run (M + 1)).gone
  re : h.rent = false
  cn : (h.page h.front).done = M
inductive Sim (Z : Hst) (Nd : Nat → Str → Prop) (T : Nat) (h : Hs) : Prop
  | up {n0 M X k : Nat} (hX : X ≤ T) (hp : h.ph = .up k) (C : Com Z Nd h n0 M X) (U : UpOk Z h n0 M k) : Sim Z Nd T h
  | go {n0 n M X : Nat} (hX : X ≤ T) (hp : h.ph = .go (Z.run n).at_) (h0 : n0 ≤ n) (hM : n ≤ M) (C : Com Z Nd h n0 M X) (G : GoOk Z Nd h n0 n M) : Sim Z Nd T h
  | keep {n0 n X j : Nat} {bs : List Str} {g : Hs} (hX : X ≤ T) (C : Com Z Nd g n0 n X) (A : ArOk Z Nd g n0 n) (hk : agt Z.keepsL (Z.run n).at_ = some bs) (hj : j < (g.small (Z.run n).at_ bs).length)
      (e : h = { ((g.small (Z.run n).at_ bs).take j).foldl Hs.deed g with ph := .keep (Z.run n).at_ (g.small (Z.run n).at_ bs) j }) : Sim Z Nd T h
  | rest {M : Nat} (hX : M + 1 ≤ T) (hp : h.ph = .rest) (E : RestOk Z h M) : Sim Z Nd T h
section
variable {Z : Hst} {Nd : Nat → Str → Prop} {h g : Hs} {n0 n M X N T : Nat}
/-! ### coming up -/
/-! ### a row -/
end
end Dn

/-! a house with failings keeps to the plain run: writing down, failings, the begin -/
namespace Dn
open PySem PySem.Spec PyProof.Rows L2
section
variable {Z : Hst} {Nd : Nat → Str → Prop} {h g : Hs} {n0 n M X N T : Nat}
theorem Sim.mono (S : Sim Z Nd T h) {T' : Nat} (le : T ≤ T') : Sim Z Nd T' h := by
  cases S with
  | up hX hp C U => exact .up (Nat.le_trans hX le) hp C U
  | go hX hp h0 hM C G => exact .go (Nat.le_trans hX le) hp h0 hM C G
  | keep hX C A hk hj e => exact .keep (Nat.le_trans hX le) C A hk hj e
  | rest hX hp E => exact .rest (Nat.le_trans hX le) hp E
/-! ### the begin -/
/-! ### what is seen of it -/
theorem Sim.let (S : Sim Z Nd T h) : ∃ X, X ≤ T ∧ h.letters = (Z.run X).gone ∧ h.rent = false := by
  cases S with
  | up hX hp C U => exact ⟨_, hX, C.le, C.re⟩
  | go hX hp h0 hM C G => exact ⟨_, hX, C.le, C.re⟩
  | @keep n0 n X j bs g hX C A hk hj e =>
    have q : ∀ (l : List Dd) (f : Hs), (l.foldl Hs.deed f).bn = f.bn ∧ (l.foldl Hs.deed f).rent = f.rent := fun l => by
      induction l with
      | nil => intro f; exact ⟨rfl, rfl⟩
      | cons d l ih =>
        intro f
        rw [List.foldl_cons]
        have : (f.deed d).bn = f.bn ∧ (f.deed d).rent = f.rent := by
          obtain ⟨d1, d2, d3, d4, d5, d6, d7, d8, d9, d10, b, d12, d13, d14⟩ := f
          cases d <;> cases b <;> exact ⟨rfl, rfl⟩
        exact ⟨(ih _).1.trans this.1, (ih _).2.trans this.2⟩
    refine ⟨X, hX, ?_, ?_⟩
    · rw [e]
      unfold Hs.letters
      show ((((g.small (Z.run n).at_ bs).take j).foldl Hs.deed g).bn).map _ = _
      rw [(q _ _).1]
      exact C.le
    · rw [e]
      exact (q _ _).2.trans C.re
  | rest hX hp E => exact ⟨_, hX, E.le, E.re⟩
end
end Dn

/-! what a law sees of a house with failings -/
namespace Dn
open PySem PySem.Spec PyProof.Rows L2
section
variable {Z : Hst} {Nd : Nat → Str → Prop} {h : Hs} {n0 n M X N T i : Nat}
theorem Sim.at_go (S : Sim Z Nd T h) (hp : h.ph = .go i) : ∃ n0 n M X, X ≤ T ∧ (Z.run n).at_ = i ∧ n0 ≤ n ∧ n ≤ M ∧ Com Z Nd h n0 M X ∧ GoOk Z Nd h n0 n M := by
  cases S with
  | up hX hp2 C U => rw [hp] at hp2; cases hp2
  | @go n0 n M X hX hp2 h0 hM C G =>
    rw [hp] at hp2
    cases hp2
    exact ⟨n0, n, M, X, hX, rfl, h0, hM, C, G⟩
  | keep hX C A hk hj e => rw [e] at hp; cases hp
  | rest hX hp2 E => rw [hp] at hp2; cases hp2
/-- where it stands -/
structure StandsOk (Z : Hst) (T : Nat) (h : Hs) (n : Nat) : Prop where
  al : (Z.run n).res = none
  nT : n ≤ T
  dn : h.done = n
  bx : ∀ r, Z.rows[(Z.run n).at_]? = some r → ∀ b ∈ r.rds, h.worth (.x b) = (Z.run n).box b
  le : ∃ X, n ≤ X ∧ X ≤ T ∧ h.letters = (Z.run X).gone
  nx : ∀ r i', Z.rows[(Z.run n).at_]? = some r → (h.step Z).ph = .go i' → (h.step Z).done = n + 1 ∧ ∀ b, r.sets = some b → (h.step Z).worth (.x b) = (Z.run (n + 1)).box b
theorem Sim.stands (R : Z.Rs) (H : Holds Z Nd) (Y : h.Sy) (S : Sim Z Nd T h) (hp : h.ph = .go i) : ∃ n, (Z.run n).at_ = i ∧ StandsOk Z T h n := by
  obtain ⟨n0, n, M, X, hX, rfl, h0, hM, C, G⟩ := S.at_go hp
  have mX := C.mX
  refine ⟨n, rfl, G.al, by omega, G.dn, fun r hr b hb => G.bx b (H.n1 _ r b hr hb), ⟨X, by omega, hX, C.le⟩, fun r i' hr hg => ?_⟩
  have D := go_row R H Y C G h0 hM hr
  rw [step_go hp hr] at hg ⊢
  cases he : isEnd r with
  | true => rw [he, if_pos rfl] at hg; cases hg
  | false =>
    rw [he, if_neg (by decide)] at hg
    rw [if_neg (by decide)]
    unfold Hs.come at hg ⊢
    cases hk : agt Z.keepsL (h.next (Z.run n).at_ r) with
    | some bs => rw [hk] at hg; cases hg
    | none => exact ⟨D.dn, fun b hb => D.w b (.inl hb)⟩
end
end Dn

/-! a store alone: its cells -/
namespace Dn
open PySem PySem.Spec PyProof.Rows L2
def stC (Z : Hst) (L : HL) (h : Hs) : Cs :=
  [(L.st, .ins "Store" (stF L h)), (L.hm, dkP intD h.home), (L.sz, dkS intD Z.szL), (L.p0, .ins "Page" (pgF h.p0 L.h0 L.t0)), (L.h0, .lst (h.p0.held.map bvD)), (L.t0, .lst (h.p0.turned.map tnD)), (L.p1, .ins "Page" (pgF h.p1 L.h1 L.t1)), (L.h1, .lst (h.p1.held.map bvD)), (L.t1, .lst (h.p1.turned.map tnD)), (L.pg, .lst [.loc L.p0, .loc L.p1])]
abbrev SSt (Z : Hst) (S : Sto) (L : HL) (h : Hs) (S' : Sto) (L' : HL) (h' : Hs) : Prop := Stp S (stC Z L h) S' (stC Z L' h') ∧ L'.st = L.st
section
variable {Z : Hst} {S S' S1 : Sto} {L L' L1 : HL} {h h' h1 : Hs}
theorem SSt.trans (a : SSt Z S L h S1 L1 h1) (b : SSt Z S1 L1 h1 S' L' h') : SSt Z S L h S' L' h' := ⟨a.1.trans b.1, b.2.trans a.2⟩
theorem SSt.refl (A : AtS S (stC Z L h)) : SSt Z S L h S L h := ⟨Stp.refl A, rfl⟩
variable (A : AtS S (stC Z L h))
include A
theorem ss_st : S[L.st]? = some (.ins "Store" (stF L h)) := A.at 0
theorem ss_hm : S[L.hm]? = some (dkP intD h.home) := A.at 1
theorem ss_p0 : S[L.p0]? = some (.ins "Page" (pgF h.p0 L.h0 L.t0)) := A.at 3
theorem ss_h0 : S[L.h0]? = some (.lst (h.p0.held.map bvD)) := A.at 4
theorem ss_t0 : S[L.t0]? = some (.lst (h.p0.turned.map tnD)) := A.at 5
theorem ss_p1 : S[L.p1]? = some (.ins "Page" (pgF h.p1 L.h1 L.t1)) := A.at 6
theorem ss_h1 : S[L.h1]? = some (.lst (h.p1.held.map bvD)) := A.at 7
theorem ss_t1 : S[L.t1]? = some (.lst (h.p1.turned.map tnD)) := A.at 8
theorem ss_pg : S[L.pg]? = some (.lst [.loc L.p0, .loc L.p1]) := A.at 9
theorem sset_st (b : Bool) (f : Option Int) : SSt Z S L h (S.set L.st (.ins "Store" (stF L { h with front := b, fin := f }))) L { h with front := b, fin := f } := ⟨(Stp.set A 0 (.ins "Store" (stF L { h with front := b, fin := f }))).of_eq rfl, rfl⟩
theorem sset_hm (l : List (Pl × Int)) : SSt Z S L h (S.set L.hm (dkP intD l)) L { h with home := l } := ⟨(Stp.set A 1 (dkP intD l)).of_eq rfl, rfl⟩
theorem sset_h0 (l : List (Str × Int)) : SSt Z S L h (S.set L.h0 (.lst (l.map bvD))) L { h with p0 := { h.p0 with held := l } } := ⟨(Stp.set A 4 (.lst (l.map bvD))).of_eq rfl, rfl⟩
theorem sset_t0 (l : List (Pl × Int)) : SSt Z S L h (S.set L.t0 (.lst (l.map tnD))) L { h with p0 := { h.p0 with turned := l } } := ⟨(Stp.set A 5 (.lst (l.map tnD))).of_eq rfl, rfl⟩
theorem sset_h1 (l : List (Str × Int)) : SSt Z S L h (S.set L.h1 (.lst (l.map bvD))) L { h with p1 := { h.p1 with held := l } } := ⟨(Stp.set A 7 (.lst (l.map bvD))).of_eq rfl, rfl⟩
theorem sset_t1 (l : List (Pl × Int)) : SSt Z S L h (S.set L.t1 (.lst (l.map tnD))) L { h with p1 := { h.p1 with turned := l } } := ⟨(Stp.set A 8 (.lst (l.map tnD))).of_eq rfl, rfl⟩
theorem snew_p0 {p : Pg} (h1 : p.held = []) (h2 : p.turned = []) : SSt Z S L h ((S ++ pgCells p S.length).set L.pg (.lst [.loc S.length, .loc L.p1])) { L with p0 := S.length, h0 := S.length + 1, t0 := S.length + 2 } { h with p0 := p } := by
  have T1 := Stp.new A 3 (.ins "Page" (pgF p (S.length + 1) (S.length + 2)))
  have T2 := Stp.new T1.at_ 4 (.lst [])
  have T3 := Stp.new T2.at_ 5 (.lst [])
  have e : (S ++ [Cell.ins "Page" (pgF p (S.length + 1) (S.length + 2))] ++ [Cell.lst []]).length = S.length + 2 := by simp
  have e1 : (S ++ [Cell.ins "Page" (pgF p (S.length + 1) (S.length + 2))]).length = S.length + 1 := by simp
  rw [e] at T3
  rw [e1] at T2 T3
  have T4 := Stp.set T3.at_ 9 (a := L.pg) (c := .lst [.loc L.p0, .loc L.p1]) (.lst [.loc S.length, .loc L.p1])
  refine ⟨?_, rfl⟩
  have es : S ++ [Cell.ins "Page" (pgF p (S.length + 1) (S.length + 2))] ++ [Cell.lst []] ++ [Cell.lst []] = S ++ pgCells p S.length := by
    rw [List.append_assoc, List.append_assoc]
    rfl
  have T := ((T1.trans T2).trans T3).trans T4
  rw [es] at T
  refine T.of_eq ?_
  obtain ⟨r, a, b, c, ph, pt⟩ := p
  have h1 : ph = [] := h1
  have h2 : pt = [] := h2
  subst h1 h2
  rfl
theorem snew_p1 {p : Pg} (h1 : p.held = []) (h2 : p.turned = []) : SSt Z S L h ((S ++ pgCells p S.length).set L.pg (.lst [.loc L.p0, .loc S.length])) { L with p1 := S.length, h1 := S.length + 1, t1 := S.length + 2 } { h with p1 := p } := by
  have T1 := Stp.new A 6 (.ins "Page" (pgF p (S.length + 1) (S.length + 2)))
  have T2 := Stp.new T1.at_ 7 (.lst [])
  have T3 := Stp.new T2.at_ 8 (.lst [])
  have e : (S ++ [Cell.ins "Page" (pgF p (S.length + 1) (S.length + 2))] ++ [Cell.lst []]).length = S.length + 2 := by simp
  have e1 : (S ++ [Cell.ins "Page" (pgF p (S.length + 1) (S.length + 2))]).length = S.length + 1 := by simp
  rw [e] at T3
  rw [e1] at T2 T3
  have T4 := Stp.set T3.at_ 9 (a := L.pg) (c := .lst [.loc L.p0, .loc L.p1]) (.lst [.loc L.p0, .loc S.length])
  refine ⟨?_, rfl⟩
  have es : S ++ [Cell.ins "Page" (pgF p (S.length + 1) (S.length + 2))] ++ [Cell.lst []] ++ [Cell.lst []] = S ++ pgCells p S.length := by
    rw [List.append_assoc, List.append_assoc]
    rfl
  have T := ((T1.trans T2).trans T3).trans T4
  rw [es] at T
  refine T.of_eq ?_
  obtain ⟨r, a, b, c, ph, pt⟩ := p
  have h1 : ph = [] := h1
  have h2 : pt = [] := h2
  subst h1 h2
  rfl
end
end Dn

namespace Lk61
open PySem PySem.Spec PyProof.Rows L2 Dn
def b_Page_init : DS := (dSeq (dSetF AT "head" (dPrim pTup (aCons (dVar 1) (aCons (dVar 2) (aCons (dVar 3) (aCons (dVar 4) aNil))))) (dVar 0))
  (dSeq (dSetF AT "held" (dPrim pLstM aNil) (dVar 0))
  (dSetF AT "turned" (dPrim pLstM aNil) (dVar 0))))
def F_Page_init : PL := runF 5 5 b_Page_init
def b_Store_init : DS := (dSeq (dSetF AT "home" (fun _ S => some (.loc S.length, S ++ [.dit [] []])) (dVar 0))
  (dSeq (dSetF AT "sizes" (fun _ S => some (.loc S.length, S ++ [.dik [] []])) (dVar 0))
  (dSeq (dFor (iSeq (dBin pIx (dVar 1) (dC (.int 0)))) (gTupD 3 (gsCons (gSet 3) (gsCons (gSet 4) (gsCons (gSet 5) gsNil)))) (dSub (dVar 4) (dFld AT "home" (dVar 0)) (dPrim pTup (aCons (dVar 3) (aCons (dC (.int 0)) aNil)))))
  (dSeq (dFor (iSeq (dBin pIx (dVar 1) (dC (.int 1)))) (gTupD 3 (gsCons (gSet 3) (gsCons (gSet 6) (gsCons (gSet 5) gsNil)))) (dSeq (dSub (dVar 6) (dFld AT "sizes" (dVar 0)) (dVar 3))
  (dFor (iRange1 (aCons (dVar 6) aNil)) (gSet 7) (dSub (dC (.int 0)) (dFld AT "home" (dVar 0)) (dPrim pTup (aCons (dVar 3) (aCons (dVar 7) aNil)))))))
  (dSeq (dSetF AT "pages" (dPrim pLstM (aCons (dMake "Page" F_Page_init [] (aCons (dC (.int 0)) (aCons (dC (.int 0)) (aCons (dC (.int 0)) (aCons (dC (.int 0)) aNil))))) (aCons (dMake "Page" F_Page_init [] (aCons (dC (.int 0)) (aCons (dC (.int 0)) (aCons (dC (.int 0)) (aCons (dC (.int 0)) aNil))))) aNil))) (dVar 0))
  (dSeq (dFor (iSeq (dVar 2)) (gSet 3) (dExpr (dMt pAppend (dFld AT "held" (dBin pIx (dFld AT "pages" (dVar 0)) (dC (.int 0)))) (aCons (dPrim pTup (aCons (dVar 3) (aCons (dC (.int 0)) aNil))) aNil))))
  (dSeq (dSetF AT "front" (dC (.int 0)) (dVar 0))
  (dSetF AT "final" (dC .non) (dVar 0)))))))))
def F_Store_init : PL := runF 3 8 b_Store_init
def b_Store_cell : DS := (dRet (dBin pIx (dFld AT "home" (dVar 0)) (dPrim pTup (aCons (dVar 1) (aCons (dC (.int 0)) aNil)))))
def F_Store_cell : PL := runF 2 2 b_Store_cell
def b_Store_shelf : DS := (dRet (dLcM (iRange1 (aCons (dBin pIx (dFld AT "sizes" (dVar 0)) (dVar 1)) aNil)) (gSet 2) (dC (.bl true)) (dBin pIx (dFld AT "home" (dVar 0)) (dPrim pTup (aCons (dVar 1) (aCons (dVar 2) aNil)))) [2]))
def F_Store_shelf : PL := runF 2 3 b_Store_shelf
def b_Store_get_home : DS := (dRet (dBin pIx (dFld AT "home" (dVar 0)) (dPrim pTup (aCons (dVar 1) (aCons (dVar 2) aNil)))))
def F_Store_get_home : PL := runF 3 3 b_Store_get_home
def b_Store_put : DS := (dSub (dVar 3) (dFld AT "home" (dVar 0)) (dPrim pTup (aCons (dVar 1) (aCons (dVar 2) aNil))))
def F_Store_put : PL := runF 4 4 b_Store_put
def b_Store_face : DS := (dRet (dFld AT "front" (dVar 0)))
def F_Store_face : PL := runF 1 1 b_Store_face
def b_Store_page : DS := (dSeq (dSet 2 (dBin pIx (dFld AT "pages" (dVar 0)) (dVar 1)))
  (dRet (dBin pAdd (dFld AT "head" (dVar 2)) (dPrim pTup (aCons (dPrim pListM (aCons (dFld AT "held" (dVar 2)) aNil)) (aCons (dPrim pListM (aCons (dFld AT "turned" (dVar 2)) aNil)) aNil))))))
def F_Store_page : PL := runF 2 3 b_Store_page
def b_Store_begin_page : DS := (dSub (dMake "Page" F_Page_init [] (aCons (dVar 1) (aCons (dVar 2) (aCons (dVar 3) (aCons (dVar 4) aNil))))) (dFld AT "pages" (dVar 0)) (dBin pSub (dC (.int 1)) (dFld AT "front" (dVar 0))))
def F_Store_begin_page : PL := runF 5 5 b_Store_begin_page
def b_Store_keep_box : DS := (dExpr (dMt pAppend (dFld AT "held" (dBin pIx (dFld AT "pages" (dVar 0)) (dBin pSub (dC (.int 1)) (dFld AT "front" (dVar 0))))) (aCons (dPrim pTup (aCons (dVar 1) (aCons (dVar 2) aNil))) aNil)))
def F_Store_keep_box : PL := runF 3 3 b_Store_keep_box
def b_Store_keep_turn : DS := (dExpr (dMt pAppend (dFld AT "turned" (dBin pIx (dFld AT "pages" (dVar 0)) (dBin pSub (dC (.int 1)) (dFld AT "front" (dVar 0))))) (aCons (dPrim pTup (aCons (dPrim pTup (aCons (dVar 1) (aCons (dVar 2) aNil))) (aCons (dVar 3) aNil))) aNil)))
def F_Store_keep_turn : PL := runF 4 4 b_Store_keep_turn
def b_Store_turn : DS := (dSetF AT "front" (dBin pSub (dC (.int 1)) (dFld AT "front" (dVar 0))) (dVar 0))
def F_Store_turn : PL := runF 1 1 b_Store_turn
def b_Store_answer : DS := (dRet (dFld AT "final" (dVar 0)))
def F_Store_answer : PL := runF 1 1 b_Store_answer
def b_Store_give : DS := (dSetF AT "final" (dVar 1) (dVar 0))
def F_Store_give : PL := runF 2 2 b_Store_give
def b_law_cell : DS := (dSeq (dIfS (dBin pLt (dVar 1) (dPrim pLen (aCons (dVar 0) aNil))) (dRet (dBin pIx (dVar 0) (dVar 1))) dNext)
  (dSeq (dSet 2 (dC (.int 7)))
  (dSeq (dIfS (dBin pGt (dPrim pLen (aCons (dVar 0) aNil)) (dC (.int 0))) (dSet 2 (dBin pMod (dBin pIx (dVar 0) (dBin pMod (dVar 1) (dPrim pLen (aCons (dVar 0) aNil)))) (dC (.int 999983)))) dNext)
  (dRet (dBin pMod (dBin pMul (dBin pAdd (dBin pAdd (dVar 2) (dBin pMul (dC (.int 613)) (dVar 1))) (dC (.int 29))) (dBin pAdd (dBin pAdd (dVar 2) (dBin pMul (dC (.int 71)) (dVar 1))) (dC (.int 5)))) (dC (.int 1000003)))))))
def F_law_cell : PL := runF 2 3 b_law_cell
def b_law_part : DS := (dSeq (dSet 3 (dPrim pTup (aCons (dC (.int 10007)) (aCons (dC (.int 10009)) (aCons (dC (.int 10037)) (aCons (dC (.int 10039)) (aCons (dC (.int 10061)) (aCons (dC (.int 10067)) (aCons (dC (.int 10069)) (aCons (dC (.int 10079)) aNil))))))))))
  (dRet (dBin pMod (dBin pMod (dBin pAdd (dBin pMul (dVar 0) (dC (.int 48271))) (dBin pMul (dC (.int 7919)) (dVar 1))) (dBin pIx (dVar 3) (dBin pMod (dVar 1) (dC (.int 8))))) (dVar 2))))
def F_law_part : PL := runF 3 4 b_law_part
def b_law_name : DS := (dSeq (dSet 2 (dC (.str "abcdefghijklmnopqrstuvwxyz")))
  (dSeq (dSet 3 (dBin pAdd (dC (.int 1)) (dPrim (cP (pureOf F_law_part) []) (aCons (dVar 0) (aCons (dC (.int 7)) (aCons (dC (.int 6)) aNil))))))
  (dSeq (dSet 4 (dLcM (iRange1 (aCons (dVar 3) aNil)) (gSet 5) (dC (.bl true)) (dBin pIx (dVar 2) (dPrim (cP (pureOf F_law_part) []) (aCons (dVar 0) (aCons (dVar 5) (aCons (dC (.int 26)) aNil))))) [5]))
  (dSeq (dSub (dBin pIx (dVar 2) (dBin pMod (dBin pAdd (dPrim (cP (pureOf F_law_part) []) (aCons (dVar 0) (aCons (dC (.int 4)) (aCons (dC (.int 26)) aNil)))) (dVar 1)) (dC (.int 26)))) (dVar 4) (dPrim (cP (pureOf F_law_part) []) (aCons (dVar 0) (aCons (dC (.int 3)) (aCons (dVar 3) aNil)))))
  (dRet (dM1 pJoin (dC (.str "")) (dVar 4)))))))
def F_law_name : PL := runF 2 6 b_law_name
def b_law_program : DS := (dSeq (dSet 2 (dPrim pLst (aCons (dPrim (cP (pureOf F_law_part) []) (aCons (dVar 0) (aCons (dC (.int 0)) (aCons (dC (.int 5)) aNil)))) (aCons (dPrim (cP (pureOf F_law_part) []) (aCons (dVar 0) (aCons (dC (.int 1)) (aCons (dC (.int 4)) aNil)))) aNil))))
  (dSeq (dIfS (dBin (pEq false) (dPrim (cP (pureOf F_law_part) []) (aCons (dVar 0) (aCons (dC (.int 2)) (aCons (dC (.int 4)) aNil)))) (dC (.int 1))) (dSet 2 (dPrim pLst (aCons (dC (.int 8)) (aCons (dC (.int 4)) aNil)))) dNext)
  (dSeq (dSet 3 (dPrim pLstM aNil))
  (dSeq (dFor (iRange1 (aCons (dBin pIx (dVar 2) (dC (.int 0))) aNil)) (gSet 4) (dExpr (dMt pAppend (dVar 3) (aCons (dPrim pTup (aCons (dPrim (cP (pureOf F_law_name) []) (aCons (dVar 1) (aCons (dVar 4) aNil))) (aCons (dBin pMod (dBin pMul (dBin pAdd (dVar 0) (dBin pMul (dC (.int 31)) (dVar 4))) (dC (.int 94906267))) (dBin pPow (dC (.int 2)) (dC (.int 40)))) (aCons (dBin (pEq false) (dPrim (cP (pureOf F_law_part) []) (aCons (dBin pAdd (dVar 0) (dVar 4)) (aCons (dC (.int 3)) (aCons (dC (.int 2)) aNil)))) (dC (.int 1))) aNil)))) aNil))))
  (dSeq (dSet 5 (dPrim pLstM aNil))
  (dSeq (dFor (iRange1 (aCons (dBin pIx (dVar 2) (dC (.int 1))) aNil)) (gSet 4) (dExpr (dMt pAppend (dVar 5) (aCons (dPrim pTup (aCons (dPrim (cP (pureOf F_law_name) []) (aCons (dVar 1) (aCons (dBin pAdd (dC (.int 8)) (dVar 4)) aNil))) (aCons (dBin pAdd (dC (.int 1)) (dPrim (cP (pureOf F_law_part) []) (aCons (dBin pAdd (dVar 0) (dVar 4)) (aCons (dC (.int 4)) (aCons (dC (.int 8)) aNil))))) (aCons (dBin (pEq false) (dPrim (cP (pureOf F_law_part) []) (aCons (dBin pAdd (dVar 0) (dVar 4)) (aCons (dC (.int 5)) (aCons (dC (.int 2)) aNil)))) (dC (.int 1))) aNil)))) aNil))))
  (dRet (dPrim pTup (aCons (dPrim pTuple (aCons (dVar 3) aNil)) (aCons (dPrim pTuple (aCons (dVar 5) aNil)) (aCons (dBin pMulT (dPrim pTup (aCons (dPrim pTup (aCons (dC (.str "end")) (aCons (dC (.int 0)) aNil))) aNil)) (dC (.int 60))) aNil)))))))))))
def F_law_program : PL := runF 2 6 b_law_program
def b_law_model : DS := (dSeq (dSet 2 (fun _ S => some (.loc S.length, S ++ [.dit [] []])))
  (dSeq (dFor (iSeq (dBin pIx (dVar 0) (dC (.int 0)))) (gTupD 3 (gsCons (gSet 4) (gsCons (gSet 5) (gsCons (gSet 6) gsNil)))) (dSub (dVar 5) (dVar 2) (dPrim pTup (aCons (dVar 4) (aCons (dC (.int 0)) aNil)))))
  (dSeq (dFor (iSeq (dBin pIx (dVar 0) (dC (.int 1)))) (gTupD 3 (gsCons (gSet 4) (gsCons (gSet 7) (gsCons (gSet 6) gsNil)))) (dFor (iRange1 (aCons (dVar 7) aNil)) (gSet 8) (dSub (dC (.int 0)) (dVar 2) (dPrim pTup (aCons (dVar 4) (aCons (dVar 8) aNil))))))
  (dSeq (dSet 3 (dPrim pLstM (aCons (dPrim pLstM (aCons (dC (.int 0)) (aCons (dC (.int 0)) (aCons (dC (.int 0)) (aCons (dC (.int 0)) aNil))))) (aCons (dLcM (iSeq (dVar 1)) (gSet 4) (dC (.bl true)) (dPrim pTup (aCons (dVar 4) (aCons (dC (.int 0)) aNil))) [4]) (aCons (dPrim pLstM aNil) aNil)))))
  (dRet (dDisp (((dC (.str "home")), (dVar 2)) :: ((dC (.str "pages")), (dPrim pLstM (aCons (dVar 3) (aCons (dPrim pLstM (aCons (dPrim pLstM (aCons (dC (.int 0)) (aCons (dC (.int 0)) (aCons (dC (.int 0)) (aCons (dC (.int 0)) aNil))))) (aCons (dPrim pLstM aNil) (aCons (dPrim pLstM aNil) aNil)))) aNil)))) :: ((dC (.str "face")), (dPrim pLstM (aCons (dC (.int 0)) aNil))) :: ((dC (.str "answer")), (dPrim pLstM (aCons (dC .non) aNil))) :: [])))))))
def F_law_model : PL := runF 2 9 b_law_model
def b_law_same (bR : DS) : DS := (dSeq (dIfS (dIsi .int (dVar 1)) (dRet (dAnd (dIsi .int (dVar 0)) (dAnd (dNot (dIsi .bool (dVar 0))) (dBin (pEq false) (dVar 0) (dVar 1))))) dNext)
  (dSeq (dIfS (dIsi .tuple (dVar 1)) (dSeq (dIfS (dOr (dNot (dIsi .tuple (dVar 0))) (dBin (pEq true) (dPrim pLen (aCons (dVar 0) aNil)) (dPrim pLen (aCons (dVar 1) aNil)))) (dRet (dC (.bl false))) dNext)
  (dRet (dPrim pAll (aCons (dLc (iRange1 (aCons (dPrim pLen (aCons (dVar 1) aNil)) aNil)) (gSet 2) (dC (.bl true)) (dPrim (cS (runF 2 3 bR) []) (aCons (dBin pIx (dVar 0) (dVar 2)) (aCons (dBin pIx (dVar 1) (dVar 2)) aNil))) [2]) aNil)))) dNext)
  (dSeq (dIfS (dIsi .list (dVar 1)) (dSeq (dIfS (dOr (dNot (dIsi .list (dVar 0))) (dBin (pEq true) (dPrim pLen (aCons (dVar 0) aNil)) (dPrim pLen (aCons (dVar 1) aNil)))) (dRet (dC (.bl false))) dNext)
  (dRet (dPrim pAll (aCons (dLc (iRange1 (aCons (dPrim pLen (aCons (dVar 1) aNil)) aNil)) (gSet 2) (dC (.bl true)) (dPrim (cS (runF 2 3 bR) []) (aCons (dBin pIx (dVar 0) (dVar 2)) (aCons (dBin pIx (dVar 1) (dVar 2)) aNil))) [2]) aNil)))) dNext)
  (dRet (dBin (pEq false) (dVar 0) (dVar 1))))))
def br_law_same : Nat → DS
  | 0 => fun _ _ => none
  | n + 1 => b_law_same (br_law_same n)
def F_law_same : PL := runF 2 3 (br_law_same 6)
def b_law_told : DS := (dSeq (dFor (iSeq (dBin pIx (dVar 1) (dC (.int 0)))) (gTupD 3 (gsCons (gSet 4) (gsCons (gSet 5) (gsCons (gSet 6) gsNil)))) (dIfS (dNot (dPrim (cP (pureOf F_law_same) []) (aCons (dMeth "Store" "cell" F_Store_cell [] (dVar 0) (aCons (dVar 4) aNil)) (aCons (dBin pIx (dBin pIx (dVar 2) (dC (.str "home"))) (dPrim pTup (aCons (dVar 4) (aCons (dC (.int 0)) aNil)))) aNil)))) (dRet (dC (.bl false))) dNext))
  (dSeq (dFor (iSeq (dBin pIx (dVar 1) (dC (.int 1)))) (gTupD 3 (gsCons (gSet 4) (gsCons (gSet 7) (gsCons (gSet 6) gsNil)))) (dSeq (dSet 8 (dLc (iRange1 (aCons (dVar 7) aNil)) (gSet 10) (dC (.bl true)) (dBin pIx (dBin pIx (dVar 2) (dC (.str "home"))) (dPrim pTup (aCons (dVar 4) (aCons (dVar 10) aNil)))) [10]))
  (dSeq (dSet 9 (dMeth "Store" "shelf" F_Store_shelf [] (dVar 0) (aCons (dVar 4) aNil)))
  (dSeq (dIfS (dNot (dPrim (cP (pureOf F_law_same) []) (aCons (dVar 9) (aCons (dVar 8) aNil)))) (dRet (dC (.bl false))) dNext)
  (dExpr (dMt pClear (dVar 9) aNil))))))
  (dSeq (dForK (dBin pIx (dVar 2) (dC (.str "home"))) (gTupD 2 (gsCons (gSet 4) (gsCons (gSet 10) gsNil))) (dIfS (dNot (dPrim (cP (pureOf F_law_same) []) (aCons (dMeth "Store" "get_home" F_Store_get_home [] (dVar 0) (aCons (dVar 4) (aCons (dVar 10) aNil))) (aCons (dBin pIx (dBin pIx (dVar 2) (dC (.str "home"))) (dPrim pTup (aCons (dVar 4) (aCons (dVar 10) aNil)))) aNil)))) (dRet (dC (.bl false))) dNext))
  (dSeq (dFor (iRange1 (aCons (dC (.int 2)) aNil)) (gSet 3) (dSeq (dAsg (dBin pIx (dBin pIx (dVar 2) (dC (.str "pages"))) (dVar 3)) (gLstD 3 (gsCons (gSet 12) (gsCons (gSet 13) (gsCons (gSet 14) gsNil)))))
  (dSeq (dSet 11 (dMeth "Store" "page" F_Store_page [] (dVar 0) (aCons (dVar 3) aNil)))
  (dSeq (dIfS (dNot (dPrim (cP (pureOf F_law_same) []) (aCons (dVar 11) (aCons (dBin pAdd (dPrim pTuple (aCons (dVar 12) aNil)) (dPrim pTup (aCons (dVar 13) (aCons (dVar 14) aNil)))) aNil)))) (dRet (dC (.bl false))) dNext)
  (dSeq (dExpr (dMt pAppend (dBin pIx (dVar 11) (dC (.int 4))) (aCons (dPrim pTup (aCons (dC (.str "zz")) (aCons (dC (.int 1)) aNil))) aNil)))
  (dExpr (dMt pClear (dBin pIx (dVar 11) (dC (.int 5))) aNil)))))))
  (dSeq (dIfS (dNot (dPrim (cP (pureOf F_law_same) []) (aCons (dMeth "Store" "face" F_Store_face [] (dVar 0) aNil) (aCons (dBin pIx (dBin pIx (dVar 2) (dC (.str "face"))) (dC (.int 0))) aNil)))) (dRet (dC (.bl false))) dNext)
  (dSeq (dIfS (dBin (pIs false) (dBin pIx (dBin pIx (dVar 2) (dC (.str "answer"))) (dC (.int 0))) (dC .non)) (dRet (dBin (pIs false) (dMeth "Store" "answer" F_Store_answer [] (dVar 0) aNil) (dC .non))) dNext)
  (dRet (dPrim (cP (pureOf F_law_same) []) (aCons (dMeth "Store" "answer" F_Store_answer [] (dVar 0) aNil) (aCons (dBin pIx (dBin pIx (dVar 2) (dC (.str "answer"))) (dC (.int 0))) aNil))))))))))
def F_law_told : PL := runF 3 15 b_law_told
def b_law_deed : DS := (dSeq (dSet 3 (dBin pMod (dBin pMul (dVar 2) (dC (.int 94906267))) (dBin pPow (dC (.int 2)) (dC (.int 40)))))
  (dSeq (dSet 4 (dBin pSub (dC (.int 1)) (dBin pIx (dBin pIx (dVar 1) (dC (.str "face"))) (dC (.int 0)))))
  (dSeq (dSet 5 (dPrim pList (aCons (dBin pIx (dVar 1) (dC (.str "home"))) aNil)))
  (dSeq (dSet 6 (dPrim (cP (pureOf F_law_part) []) (aCons (dVar 2) (aCons (dC (.int 0)) (aCons (dC (.int 9)) aNil)))))
  (dSeq (dIfS (dAnd (dBin pLt (dVar 6) (dC (.int 4))) (dBin (pEq true) (dVar 5) (dPrim pLst aNil))) (dSeq (dAsg (dBin pIx (dVar 5) (dPrim (cP (pureOf F_law_part) []) (aCons (dVar 2) (aCons (dC (.int 1)) (aCons (dPrim pLen (aCons (dVar 5) aNil)) aNil))))) (gTupD 2 (gsCons (gSet 9) (gsCons (gSet 10) gsNil))))
  (dSeq (dIfS (dBin pLt (dVar 6) (dC (.int 2))) (dSeq (dSub (dVar 3) (dBin pIx (dVar 1) (dC (.str "home"))) (dPrim pTup (aCons (dVar 9) (aCons (dVar 10) aNil))))
  (dRet (dMeth "Store" "put" F_Store_put [] (dVar 0) (aCons (dVar 9) (aCons (dVar 10) (aCons (dVar 3) aNil)))))) dNext)
  (dSeq (dExpr (dMt pAppend (dBin pIx (dBin pIx (dBin pIx (dVar 1) (dC (.str "pages"))) (dVar 4)) (dC (.int 2))) (aCons (dPrim pTup (aCons (dPrim pTup (aCons (dVar 9) (aCons (dVar 10) aNil))) (aCons (dVar 3) aNil))) aNil)))
  (dRet (dMeth "Store" "keep_turn" F_Store_keep_turn [] (dVar 0) (aCons (dVar 9) (aCons (dVar 10) (aCons (dVar 3) aNil)))))))) dNext)
  (dSeq (dIfS (dBin pLt (dVar 6) (dC (.int 6))) (dSeq (dSet 7 (dPrim (cP (pureOf F_law_name) []) (aCons (dVar 2) (aCons (dPrim (cP (pureOf F_law_part) []) (aCons (dVar 2) (aCons (dC (.int 2)) (aCons (dC (.int 26)) aNil)))) aNil))))
  (dSeq (dExpr (dMt pAppend (dBin pIx (dBin pIx (dBin pIx (dVar 1) (dC (.str "pages"))) (dVar 4)) (dC (.int 1))) (aCons (dPrim pTup (aCons (dVar 7) (aCons (dVar 3) aNil))) aNil)))
  (dRet (dMeth "Store" "keep_box" F_Store_keep_box [] (dVar 0) (aCons (dVar 7) (aCons (dVar 3) aNil)))))) dNext)
  (dSeq (dIfS (dBin (pEq false) (dVar 6) (dC (.int 6))) (dSeq (dSet 8 (dPrim pLstM (aCons (dPrim (cP (pureOf F_law_part) []) (aCons (dVar 2) (aCons (dC (.int 3)) (aCons (dC (.int 60)) aNil)))) (aCons (dBin pMod (dVar 3) (dC (.int 3000))) (aCons (dBin pMod (dBin pDiv (dVar 3) (dC (.int 7))) (dC (.int 101))) (aCons (dBin pMod (dBin pDiv (dVar 3) (dC (.int 11))) (dC (.int 3000))) aNil))))))
  (dSeq (dSub (dPrim pLstM (aCons (dVar 8) (aCons (dPrim pLstM aNil) (aCons (dPrim pLstM aNil) aNil)))) (dBin pIx (dVar 1) (dC (.str "pages"))) (dVar 4))
  (dRet (dMeth "Store" "begin_page" F_Store_begin_page [] (dVar 0) (aCons (dBin pIx (dVar 8) (dC (.int 0))) (aCons (dBin pIx (dVar 8) (dC (.int 1))) (aCons (dBin pIx (dVar 8) (dC (.int 2))) (aCons (dBin pIx (dVar 8) (dC (.int 3))) aNil)))))))) dNext)
  (dSeq (dIfS (dBin (pEq false) (dVar 6) (dC (.int 7))) (dSeq (dSub (dVar 4) (dBin pIx (dVar 1) (dC (.str "face"))) (dC (.int 0)))
  (dRet (dMeth "Store" "turn" F_Store_turn [] (dVar 0) aNil))) dNext)
  (dSeq (dSub (dVar 3) (dBin pIx (dVar 1) (dC (.str "answer"))) (dC (.int 0)))
  (dRet (dMeth "Store" "give" F_Store_give [] (dVar 0) (aCons (dVar 3) aNil))))))))))))
def F_law_deed : PL := runF 3 11 b_law_deed
def b_law : DS := (dSeq (dSet 1 (dPrim pLstM aNil))
  (dSeq (dFor (iRange1 (aCons (dC (.int 2)) aNil)) (gSet 2) (dSeq (dSet 4 (dPrim (cP (pureOf F_law_program) []) (aCons (dPrim (cP (pureOf F_law_cell) []) (aCons (dVar 0) (aCons (dBin pMul (dC (.int 2)) (dVar 2)) aNil))) (aCons (dPrim (cP (pureOf F_law_cell) []) (aCons (dVar 0) (aCons (dBin pAdd (dBin pMul (dC (.int 2)) (dVar 2)) (dC (.int 1))) aNil))) aNil))))
  (dSeq (dSet 3 (dPrim (cP (pureOf F_law_cell) []) (aCons (dVar 0) (aCons (dBin pAdd (dC (.int 4)) (dVar 2)) aNil))))
  (dSeq (dSet 5 (dPrim pTuple (aCons (dPrim pSorted (aCons (dLc (iRange1 (aCons (dPrim (cP (pureOf F_law_part) []) (aCons (dVar 3) (aCons (dC (.int 2)) (aCons (dC (.int 6)) aNil)))) aNil)) (gSet 8) (dC (.bl true)) (dPrim (cP (pureOf F_law_name) []) (aCons (dVar 3) (aCons (dVar 8) aNil))) [8]) aNil)) aNil)))
  (dSeq (dSet 6 (dMake "Store" F_Store_init [] (aCons (dVar 4) (aCons (dVar 5) aNil))))
  (dSeq (dSet 7 (dPrim (cS F_law_model []) (aCons (dVar 4) (aCons (dVar 5) aNil))))
  (dSeq (dIfS (dNot (dPrim (cS F_law_told []) (aCons (dVar 6) (aCons (dVar 4) (aCons (dVar 7) aNil))))) (dRet (dC (.bl false))) dNext)
  (dExpr (dMt pAppend (dVar 1) (aCons (dPrim pLst (aCons (dVar 6) (aCons (dVar 4) (aCons (dVar 7) aNil)))) aNil))))))))))
  (dSeq (dFor (iSeq (dSl pSl (dVar 0) (oSome (dC (.int 8))) (oSome (dC (.int 48))))) (gSet 3) (dSeq (dAsg (dBin pIx (dVar 1) (dPrim (cP (pureOf F_law_part) []) (aCons (dVar 3) (aCons (dC (.int 7)) (aCons (dC (.int 2)) aNil))))) (gLstD 3 (gsCons (gSet 6) (gsCons (gSet 4) (gsCons (gSet 7) gsNil)))))
  (dIfS (dOr (dBin (pIs true) (dPrim (cS F_law_deed []) (aCons (dVar 6) (aCons (dVar 7) (aCons (dVar 3) aNil)))) (dC .non)) (dNot (dPrim (cS F_law_told []) (aCons (dVar 6) (aCons (dVar 4) (aCons (dVar 7) aNil)))))) (dRet (dC (.bl false))) dNext)))
  (dSeq (dForV (dVar 1) (gLstD 3 (gsCons (gSet 6) (gsCons (gSet 4) (gsCons (gSet 7) gsNil)))) (dIfS (dNot (dPrim (cS F_law_told []) (aCons (dVar 6) (aCons (dVar 4) (aCons (dVar 7) aNil))))) (dRet (dC (.bl false))) dNext) 100000)
  (dRet (dC (.bl true)))))))
def F_law : PL := runF 1 9 b_law
/-! ### facts of the head -/
abbrev Fx (K : PySem.W.Frag) (mg : Str → Option Value) : Prop := Facts fa fn ex K mg
section
variable {K : PySem.W.Frag} {mg : Str → Option Value} {P : Program} {w : World} {base : Heap}
theorem Fx.tb (Y : Fx K mg) : TB mg := Y.tb0 ⟨fac, rfl⟩
theorem Fx.at (Y : Fx K mg) : ATOk K AT := atOk_of (show ex K = true from Y.e)
theorem sc_Page_init : FnScope ["self", "row", "count", "heard", "sent"] ["self", "row", "count", "heard", "sent"] (defScope s_Page_init) := ⟨rfl, rfl, rfl, by decide +kernel, rfl, by decide +kernel, by decide +kernel⟩
theorem ok_Page_init_fn {f : Addr} {fd : FuncData} (FD : FunD K d_Page_init.name d_Page_init.qual d_Page_init.params d_Page_init.body d_Page_init.scope (He.DefD.dvs K d_Page_init) (He.DefD.kws K d_Page_init) f fd) (Y : Fx K mg) : FnOk P w K mg base CX0 1 f fd ["self", "row", "count", "heard", "sent"] (spS K 5 F_Page_init) := by
  refine fn_ok FD sc_Page_init fun cdv A outer s H E hr => ?_
  exact (sds_cons (sd_setF Y.at (ed_tup (ad_cons (ed_var (pv 1)) (ad_cons (ed_var (pv 2)) (ad_cons (ed_var (pv 3)) (ad_cons (ed_var (pv 4)) ad_nil))))) (ed_var (pv 0)))
  (sds_cons (sd_setF Y.at (ed_lstM ad_nil) (ed_var (pv 0)))
  (sds_one (sd_setF Y.at (ed_lstM ad_nil) (ed_var (pv 0))))))
theorem ok_Page_init (Y : Fx K mg) : MkC P w K mg base "Page" 1 ["self", "row", "count", "heard", "sent"] [] F_Page_init := by
  obtain ⟨fd, FD⟩ := Y.c.def_ 0 (d := d_Page_init) rfl
  exact MkC.of FD (Y.glo 9) (Y.c.fact 11) rfl (ok_Page_init_fn FD Y) fun _ _ _ _ _ _ us hl => match us, hl with | [_, _, _, _, _], _ => rfl
theorem sc_Store_init : FnScope ["self", "program", "begin", "name", "start", "twin", "size", "place"] ["self", "program", "begin"] (defScope s_Store_init) := ⟨rfl, rfl, rfl, by decide +kernel, rfl, by decide +kernel, by decide +kernel⟩
theorem ok_Store_init_fn {f : Addr} {fd : FuncData} (FD : FunD K d_Store_init.name d_Store_init.qual d_Store_init.params d_Store_init.body d_Store_init.scope (He.DefD.dvs K d_Store_init) (He.DefD.kws K d_Store_init) f fd) (Y : Fx K mg) : FnOk P w K mg base CX0 3 f fd ["self", "program", "begin"] (spS K 3 F_Store_init) := by
  refine fn_ok FD sc_Store_init fun cdv A outer s H E hr => ?_
  exact (sds_cons (sd_setF Y.at (ed_dnewT pe_dnewT) (ed_var (pv 0)))
  (sds_cons (sd_setF Y.at (ed_dnewK pe_dnewK) (ed_var (pv 0)))
  (sds_cons (sd_for (ps_for PassesOwn.never rfl (Dn.ID.pi (id_seq (ed_ix hr (ed_var (pv 1)) ed_int (fun _ _ => rfl)))) (GD.pg (gd_t rfl (gds_c (gd_name (pg_name (i := 3) sc_Store_init.nd rfl (by first | exact .inl rfl | exact .inr rfl))) (gds_c (gd_name (pg_name (i := 4) sc_Store_init.nd rfl (by first | exact .inl rfl | exact .inr rfl))) (gds_c (gd_name (pg_name (i := 5) sc_Store_init.nd rfl (by first | exact .inl rfl | exact .inr rfl))) gds_nil))))) (SDs.ps (sds_one (sd_sub (ps_asg (ED.pe (ed_var (pv 4))) (pg_sub (ED.pe (ed_fld Y.at (ed_var (pv 0)))) (ED.pe (ed_tup (ad_cons (ed_var (pv 3)) (ad_cons ed_int ad_nil)))) (PSet.or set_list (set_dict (hu1 hr))))))))))
  (sds_cons (sd_for (ps_for PassesOwn.never rfl (Dn.ID.pi (id_seq (ed_ix hr (ed_var (pv 1)) ed_int (fun _ _ => rfl)))) (GD.pg (gd_t rfl (gds_c (gd_name (pg_name (i := 3) sc_Store_init.nd rfl (by first | exact .inl rfl | exact .inr rfl))) (gds_c (gd_name (pg_name (i := 6) sc_Store_init.nd rfl (by first | exact .inl rfl | exact .inr rfl))) (gds_c (gd_name (pg_name (i := 5) sc_Store_init.nd rfl (by first | exact .inl rfl | exact .inr rfl))) gds_nil))))) (SDs.ps (sds_cons (sd_sub (ps_asg (ED.pe (ed_var (pv 6))) (pg_sub (ED.pe (ed_fld Y.at (ed_var (pv 0)))) (ED.pe (ed_var (pv 3))) (PSet.or set_list (set_dict (hu1 hr))))))
  (sds_one (sd_for (ps_for PassesOwn.never rfl (Dn.ID.pi (id_range1 (ad_cons (ed_var (pv 6)) ad_nil) (fun ha => pi_range1 (by rfl) Y.tb.range ha))) (GD.pg (gd_name (pg_name (i := 7) sc_Store_init.nd rfl (by first | exact .inl rfl | exact .inr rfl)))) (SDs.ps (sds_one (sd_sub (ps_asg (ED.pe ed_int) (pg_sub (ED.pe (ed_fld Y.at (ed_var (pv 0)))) (ED.pe (ed_tup (ad_cons (ed_var (pv 3)) (ad_cons (ed_var (pv 7)) ad_nil)))) (PSet.or set_list (set_dict (hu1 hr)))))))))))))))
  (sds_cons (sd_setF Y.at (ed_lstM (ad_cons (ed_make (ok_Page_init Y) rfl hr (by decide) (by rfl) dd0 (ad_cons ed_int (ad_cons ed_int (ad_cons ed_int (ad_cons ed_int ad_nil))))) (ad_cons (ed_make (ok_Page_init Y) rfl hr (by decide) (by rfl) dd0 (ad_cons ed_int (ad_cons ed_int (ad_cons ed_int (ad_cons ed_int ad_nil))))) ad_nil))) (ed_var (pv 0)))
  (sds_cons (sd_for (ps_for PassesOwn.never rfl (Dn.ID.pi (id_seq (ed_var (pv 2)))) (GD.pg (gd_name (pg_name (i := 3) sc_Store_init.nd rfl (by first | exact .inl rfl | exact .inr rfl)))) (SDs.ps (sds_one (sd_expr (ed_mt ok_append (ed_fld Y.at (ed_ix hr (ed_fld Y.at (ed_var (pv 0))) ed_int (fun _ _ => rfl))) (ad_cons (ed_tup (ad_cons (ed_var (pv 3)) (ad_cons ed_int ad_nil))) ad_nil) (fun ho ha => pe_bm PySem.F.plainAttrs_list PySem.F.slot_list_append PySem.F.type_list_append mt_append ho ha)))))))
  (sds_cons (sd_setF Y.at ed_int (ed_var (pv 0)))
  (sds_one (sd_setF Y.at ed_non (ed_var (pv 0)))))))))))
theorem ok_Store_init (Y : Fx K mg) : MkC P w K mg base "Store" 3 ["self", "program", "begin"] [] F_Store_init := by
  obtain ⟨fd, FD⟩ := Y.c.def_ 1 (d := d_Store_init) rfl
  exact MkC.of FD (Y.glo 12) (Y.c.fact 14) rfl (ok_Store_init_fn FD Y) fun _ _ _ _ _ _ us hl => match us, hl with | [_, _, _], _ => rfl
theorem sc_Store_cell : FnScope ["self", "name"] ["self", "name"] (defScope s_Store_cell) := ⟨rfl, rfl, rfl, by decide +kernel, rfl, by decide +kernel, by decide +kernel⟩
theorem ok_Store_cell_fn {f : Addr} {fd : FuncData} (FD : FunD K d_Store_cell.name d_Store_cell.qual d_Store_cell.params d_Store_cell.body d_Store_cell.scope (He.DefD.dvs K d_Store_cell) (He.DefD.kws K d_Store_cell) f fd) (Y : Fx K mg) : FnOk P w K mg base CX0 1 f fd ["self", "name"] (spS K 2 F_Store_cell) := by
  refine fn_ok FD sc_Store_cell fun cdv A outer s H E hr => ?_
  exact (sds_one (sd_ret (ed_ix hr (ed_fld Y.at (ed_var (pv 0))) (ed_tup (ad_cons (ed_var (pv 1)) (ad_cons ed_int ad_nil))) (fun _ _ => rfl))))
theorem ok_Store_cell (Y : Fx K mg) : MtC P w K mg base "Store" "cell" 1 ["self", "name"] [] F_Store_cell := by
  obtain ⟨fd, FD⟩ := Y.c.def_ 2 (d := d_Store_cell) rfl
  exact MtC.of FD (Y.c.fact 13) (Y.c.fact 15) rfl (ok_Store_cell_fn FD Y) fun _ _ _ _ _ _ us hl => match us, hl with | [_, _], _ => rfl
theorem sc_Store_shelf : FnScope ["self", "name", "place"] ["self", "name"] (defScope s_Store_shelf) := ⟨rfl, rfl, rfl, by decide +kernel, rfl, by decide +kernel, by decide +kernel⟩
theorem ok_Store_shelf_fn {f : Addr} {fd : FuncData} (FD : FunD K d_Store_shelf.name d_Store_shelf.qual d_Store_shelf.params d_Store_shelf.body d_Store_shelf.scope (He.DefD.dvs K d_Store_shelf) (He.DefD.kws K d_Store_shelf) f fd) (Y : Fx K mg) : FnOk P w K mg base CX0 1 f fd ["self", "name"] (spS K 2 F_Store_shelf) := by
  refine fn_ok FD sc_Store_shelf fun cdv A outer s H E hr => ?_
  exact (sds_one (sd_ret (ed_lcM (pe_lc (own := [("place", 2)]) rfl sc_Store_shelf.nd (Dn.ID.pi (id_range1 (ad_cons (ed_ix hr (ed_fld Y.at (ed_var (pv 0))) (ed_var (pv 1)) (fun _ _ => rfl)) ad_nil) (fun ha => pi_range1 (by rfl) Y.tb.range ha))) (blkOk_by (by rfl)) (fun _ _ _ _ _ => (pg_name (i := 2) sc_Store_shelf.nd rfl (by first | exact .inl rfl | exact .inr rfl))) (fun _ _ _ _ _ => pts_nil) (fun _ _ _ _ _ => (ED.pe (ed_ix hr (ed_fld Y.at (ed_var (pv 0))) (ed_tup (ad_cons (ed_var (pv 1)) (ad_cons (ed_var (pv 2)) ad_nil))) (fun _ _ => rfl))))) (gw_name (by decide)) yes_of)))
theorem ok_Store_shelf (Y : Fx K mg) : MtC P w K mg base "Store" "shelf" 1 ["self", "name"] [] F_Store_shelf := by
  obtain ⟨fd, FD⟩ := Y.c.def_ 3 (d := d_Store_shelf) rfl
  exact MtC.of FD (Y.c.fact 13) (Y.c.fact 16) rfl (ok_Store_shelf_fn FD Y) fun _ _ _ _ _ _ us hl => match us, hl with | [_, _], _ => rfl
theorem sc_Store_get_home : FnScope ["self", "name", "place"] ["self", "name", "place"] (defScope s_Store_get_home) := ⟨rfl, rfl, rfl, by decide +kernel, rfl, by decide +kernel, by decide +kernel⟩
theorem ok_Store_get_home_fn {f : Addr} {fd : FuncData} (FD : FunD K d_Store_get_home.name d_Store_get_home.qual d_Store_get_home.params d_Store_get_home.body d_Store_get_home.scope (He.DefD.dvs K d_Store_get_home) (He.DefD.kws K d_Store_get_home) f fd) (Y : Fx K mg) : FnOk P w K mg base CX0 1 f fd ["self", "name", "place"] (spS K 3 F_Store_get_home) := by
  refine fn_ok FD sc_Store_get_home fun cdv A outer s H E hr => ?_
  exact (sds_one (sd_ret (ed_ix hr (ed_fld Y.at (ed_var (pv 0))) (ed_tup (ad_cons (ed_var (pv 1)) (ad_cons (ed_var (pv 2)) ad_nil))) (fun _ _ => rfl))))
theorem ok_Store_get_home (Y : Fx K mg) : MtC P w K mg base "Store" "get_home" 1 ["self", "name", "place"] [] F_Store_get_home := by
  obtain ⟨fd, FD⟩ := Y.c.def_ 4 (d := d_Store_get_home) rfl
  exact MtC.of FD (Y.c.fact 13) (Y.c.fact 17) rfl (ok_Store_get_home_fn FD Y) fun _ _ _ _ _ _ us hl => match us, hl with | [_, _, _], _ => rfl
theorem sc_Store_put : FnScope ["self", "name", "place", "value"] ["self", "name", "place", "value"] (defScope s_Store_put) := ⟨rfl, rfl, rfl, by decide +kernel, rfl, by decide +kernel, by decide +kernel⟩
theorem ok_Store_put_fn {f : Addr} {fd : FuncData} (FD : FunD K d_Store_put.name d_Store_put.qual d_Store_put.params d_Store_put.body d_Store_put.scope (He.DefD.dvs K d_Store_put) (He.DefD.kws K d_Store_put) f fd) (Y : Fx K mg) : FnOk P w K mg base CX0 1 f fd ["self", "name", "place", "value"] (spS K 4 F_Store_put) := by
  refine fn_ok FD sc_Store_put fun cdv A outer s H E hr => ?_
  exact (sds_one (sd_sub (ps_asg (ED.pe (ed_var (pv 3))) (pg_sub (ED.pe (ed_fld Y.at (ed_var (pv 0)))) (ED.pe (ed_tup (ad_cons (ed_var (pv 1)) (ad_cons (ed_var (pv 2)) ad_nil)))) (PSet.or set_list (set_dict (hu1 hr)))))))
theorem ok_Store_put (Y : Fx K mg) : MtC P w K mg base "Store" "put" 1 ["self", "name", "place", "value"] [] F_Store_put := by
  obtain ⟨fd, FD⟩ := Y.c.def_ 5 (d := d_Store_put) rfl
  exact MtC.of FD (Y.c.fact 13) (Y.c.fact 18) rfl (ok_Store_put_fn FD Y) fun _ _ _ _ _ _ us hl => match us, hl with | [_, _, _, _], _ => rfl
theorem sc_Store_face : FnScope ["self"] ["self"] (defScope s_Store_face) := ⟨rfl, rfl, rfl, by decide +kernel, rfl, by decide +kernel, by decide +kernel⟩
theorem ok_Store_face_fn {f : Addr} {fd : FuncData} (FD : FunD K d_Store_face.name d_Store_face.qual d_Store_face.params d_Store_face.body d_Store_face.scope (He.DefD.dvs K d_Store_face) (He.DefD.kws K d_Store_face) f fd) (Y : Fx K mg) : FnOk P w K mg base CX0 1 f fd ["self"] (spS K 1 F_Store_face) := by
  refine fn_ok FD sc_Store_face fun cdv A outer s H E hr => ?_
  exact (sds_one (sd_ret (ed_fld Y.at (ed_var (pv 0)))))
theorem ok_Store_face (Y : Fx K mg) : MtC P w K mg base "Store" "face" 1 ["self"] [] F_Store_face := by
  obtain ⟨fd, FD⟩ := Y.c.def_ 6 (d := d_Store_face) rfl
  exact MtC.of FD (Y.c.fact 13) (Y.c.fact 19) rfl (ok_Store_face_fn FD Y) fun _ _ _ _ _ _ us hl => match us, hl with | [_], _ => rfl
theorem sc_Store_page : FnScope ["self", "number", "one"] ["self", "number"] (defScope s_Store_page) := ⟨rfl, rfl, rfl, by decide +kernel, rfl, by decide +kernel, by decide +kernel⟩
theorem ok_Store_page_fn {f : Addr} {fd : FuncData} (FD : FunD K d_Store_page.name d_Store_page.qual d_Store_page.params d_Store_page.body d_Store_page.scope (He.DefD.dvs K d_Store_page) (He.DefD.kws K d_Store_page) f fd) (Y : Fx K mg) : FnOk P w K mg base CX0 1 f fd ["self", "number"] (spS K 2 F_Store_page) := by
  refine fn_ok FD sc_Store_page fun cdv A outer s H E hr => ?_
  exact (sds_cons (sd_set (ps_set (i := 2) sc_Store_page.nd rfl (by first | exact .inl rfl | exact .inr rfl) (ED.pe (ed_ix hr (ed_fld Y.at (ed_var (pv 0))) (ed_var (pv 1)) (fun _ _ => rfl)))))
  (sds_one (sd_ret (ed_add (ed_fld Y.at (ed_var (pv 2))) (ed_tup (ad_cons (ed_prim (fun ha => pe_callTy (x := "list") (call_listAll rfl) (by rfl) Y.tb.list boot_list ha) ok_listM (ad_cons (ed_fld Y.at (ed_var (pv 2))) ad_nil)) (ad_cons (ed_prim (fun ha => pe_callTy (x := "list") (call_listAll rfl) (by rfl) Y.tb.list boot_list ha) ok_listM (ad_cons (ed_fld Y.at (ed_var (pv 2))) ad_nil)) ad_nil)))))))
theorem ok_Store_page (Y : Fx K mg) : MtC P w K mg base "Store" "page" 1 ["self", "number"] [] F_Store_page := by
  obtain ⟨fd, FD⟩ := Y.c.def_ 7 (d := d_Store_page) rfl
  exact MtC.of FD (Y.c.fact 13) (Y.c.fact 20) rfl (ok_Store_page_fn FD Y) fun _ _ _ _ _ _ us hl => match us, hl with | [_, _], _ => rfl
theorem sc_Store_begin_page : FnScope ["self", "row", "count", "heard", "sent"] ["self", "row", "count", "heard", "sent"] (defScope s_Store_begin_page) := ⟨rfl, rfl, rfl, by decide +kernel, rfl, by decide +kernel, by decide +kernel⟩
theorem ok_Store_begin_page_fn {f : Addr} {fd : FuncData} (FD : FunD K d_Store_begin_page.name d_Store_begin_page.qual d_Store_begin_page.params d_Store_begin_page.body d_Store_begin_page.scope (He.DefD.dvs K d_Store_begin_page) (He.DefD.kws K d_Store_begin_page) f fd) (Y : Fx K mg) : FnOk P w K mg base CX0 3 f fd ["self", "row", "count", "heard", "sent"] (spS K 5 F_Store_begin_page) := by
  refine fn_ok FD sc_Store_begin_page fun cdv A outer s H E hr => ?_
  exact (sds_one (sd_sub (ps_asg (ED.pe (ed_make (ok_Page_init Y) rfl hr (by decide) (by rfl) dd0 (ad_cons (ed_var (pv 1)) (ad_cons (ed_var (pv 2)) (ad_cons (ed_var (pv 3)) (ad_cons (ed_var (pv 4)) ad_nil)))))) (pg_sub (ED.pe (ed_fld Y.at (ed_var (pv 0)))) (ED.pe (ed_sub ed_int (ed_fld Y.at (ed_var (pv 0))))) (PSet.or set_list (set_dict (hu1 hr)))))))
theorem ok_Store_begin_page (Y : Fx K mg) : MtC P w K mg base "Store" "begin_page" 3 ["self", "row", "count", "heard", "sent"] [] F_Store_begin_page := by
  obtain ⟨fd, FD⟩ := Y.c.def_ 8 (d := d_Store_begin_page) rfl
  exact MtC.of FD (Y.c.fact 13) (Y.c.fact 21) rfl (ok_Store_begin_page_fn FD Y) fun _ _ _ _ _ _ us hl => match us, hl with | [_, _, _, _, _], _ => rfl
theorem sc_Store_keep_box : FnScope ["self", "name", "value"] ["self", "name", "value"] (defScope s_Store_keep_box) := ⟨rfl, rfl, rfl, by decide +kernel, rfl, by decide +kernel, by decide +kernel⟩
theorem ok_Store_keep_box_fn {f : Addr} {fd : FuncData} (FD : FunD K d_Store_keep_box.name d_Store_keep_box.qual d_Store_keep_box.params d_Store_keep_box.body d_Store_keep_box.scope (He.DefD.dvs K d_Store_keep_box) (He.DefD.kws K d_Store_keep_box) f fd) (Y : Fx K mg) : FnOk P w K mg base CX0 1 f fd ["self", "name", "value"] (spS K 3 F_Store_keep_box) := by
  refine fn_ok FD sc_Store_keep_box fun cdv A outer s H E hr => ?_
  exact (sds_one (sd_expr (ed_mt ok_append (ed_fld Y.at (ed_ix hr (ed_fld Y.at (ed_var (pv 0))) (ed_sub ed_int (ed_fld Y.at (ed_var (pv 0)))) (fun _ _ => rfl))) (ad_cons (ed_tup (ad_cons (ed_var (pv 1)) (ad_cons (ed_var (pv 2)) ad_nil))) ad_nil) (fun ho ha => pe_bm PySem.F.plainAttrs_list PySem.F.slot_list_append PySem.F.type_list_append mt_append ho ha))))
theorem ok_Store_keep_box (Y : Fx K mg) : MtC P w K mg base "Store" "keep_box" 1 ["self", "name", "value"] [] F_Store_keep_box := by
  obtain ⟨fd, FD⟩ := Y.c.def_ 9 (d := d_Store_keep_box) rfl
  exact MtC.of FD (Y.c.fact 13) (Y.c.fact 22) rfl (ok_Store_keep_box_fn FD Y) fun _ _ _ _ _ _ us hl => match us, hl with | [_, _, _], _ => rfl
theorem sc_Store_keep_turn : FnScope ["self", "name", "place", "value"] ["self", "name", "place", "value"] (defScope s_Store_keep_turn) := ⟨rfl, rfl, rfl, by decide +kernel, rfl, by decide +kernel, by decide +kernel⟩
theorem ok_Store_keep_turn_fn {f : Addr} {fd : FuncData} (FD : FunD K d_Store_keep_turn.name d_Store_keep_turn.qual d_Store_keep_turn.params d_Store_keep_turn.body d_Store_keep_turn.scope (He.DefD.dvs K d_Store_keep_turn) (He.DefD.kws K d_Store_keep_turn) f fd) (Y : Fx K mg) : FnOk P w K mg base CX0 1 f fd ["self", "name", "place", "value"] (spS K 4 F_Store_keep_turn) := by
  refine fn_ok FD sc_Store_keep_turn fun cdv A outer s H E hr => ?_
  exact (sds_one (sd_expr (ed_mt ok_append (ed_fld Y.at (ed_ix hr (ed_fld Y.at (ed_var (pv 0))) (ed_sub ed_int (ed_fld Y.at (ed_var (pv 0)))) (fun _ _ => rfl))) (ad_cons (ed_tup (ad_cons (ed_tup (ad_cons (ed_var (pv 1)) (ad_cons (ed_var (pv 2)) ad_nil))) (ad_cons (ed_var (pv 3)) ad_nil))) ad_nil) (fun ho ha => pe_bm PySem.F.plainAttrs_list PySem.F.slot_list_append PySem.F.type_list_append mt_append ho ha))))
theorem ok_Store_keep_turn (Y : Fx K mg) : MtC P w K mg base "Store" "keep_turn" 1 ["self", "name", "place", "value"] [] F_Store_keep_turn := by
  obtain ⟨fd, FD⟩ := Y.c.def_ 10 (d := d_Store_keep_turn) rfl
  exact MtC.of FD (Y.c.fact 13) (Y.c.fact 23) rfl (ok_Store_keep_turn_fn FD Y) fun _ _ _ _ _ _ us hl => match us, hl with | [_, _, _, _], _ => rfl
theorem sc_Store_turn : FnScope ["self"] ["self"] (defScope s_Store_turn) := ⟨rfl, rfl, rfl, by decide +kernel, rfl, by decide +kernel, by decide +kernel⟩
theorem ok_Store_turn_fn {f : Addr} {fd : FuncData} (FD : FunD K d_Store_turn.name d_Store_turn.qual d_Store_turn.params d_Store_turn.body d_Store_turn.scope (He.DefD.dvs K d_Store_turn) (He.DefD.kws K d_Store_turn) f fd) (Y : Fx K mg) : FnOk P w K mg base CX0 1 f fd ["self"] (spS K 1 F_Store_turn) := by
  refine fn_ok FD sc_Store_turn fun cdv A outer s H E hr => ?_
  exact (sds_one (sd_setF Y.at (ed_sub ed_int (ed_fld Y.at (ed_var (pv 0)))) (ed_var (pv 0))))
theorem ok_Store_turn (Y : Fx K mg) : MtC P w K mg base "Store" "turn" 1 ["self"] [] F_Store_turn := by
  obtain ⟨fd, FD⟩ := Y.c.def_ 11 (d := d_Store_turn) rfl
  exact MtC.of FD (Y.c.fact 13) (Y.c.fact 24) rfl (ok_Store_turn_fn FD Y) fun _ _ _ _ _ _ us hl => match us, hl with | [_], _ => rfl
theorem sc_Store_answer : FnScope ["self"] ["self"] (defScope s_Store_answer) := ⟨rfl, rfl, rfl, by decide +kernel, rfl, by decide +kernel, by decide +kernel⟩
theorem ok_Store_answer_fn {f : Addr} {fd : FuncData} (FD : FunD K d_Store_answer.name d_Store_answer.qual d_Store_answer.params d_Store_answer.body d_Store_answer.scope (He.DefD.dvs K d_Store_answer) (He.DefD.kws K d_Store_answer) f fd) (Y : Fx K mg) : FnOk P w K mg base CX0 1 f fd ["self"] (spS K 1 F_Store_answer) := by
  refine fn_ok FD sc_Store_answer fun cdv A outer s H E hr => ?_
  exact (sds_one (sd_ret (ed_fld Y.at (ed_var (pv 0)))))
theorem ok_Store_answer (Y : Fx K mg) : MtC P w K mg base "Store" "answer" 1 ["self"] [] F_Store_answer := by
  obtain ⟨fd, FD⟩ := Y.c.def_ 12 (d := d_Store_answer) rfl
  exact MtC.of FD (Y.c.fact 13) (Y.c.fact 25) rfl (ok_Store_answer_fn FD Y) fun _ _ _ _ _ _ us hl => match us, hl with | [_], _ => rfl
theorem sc_Store_give : FnScope ["self", "value"] ["self", "value"] (defScope s_Store_give) := ⟨rfl, rfl, rfl, by decide +kernel, rfl, by decide +kernel, by decide +kernel⟩
theorem ok_Store_give_fn {f : Addr} {fd : FuncData} (FD : FunD K d_Store_give.name d_Store_give.qual d_Store_give.params d_Store_give.body d_Store_give.scope (He.DefD.dvs K d_Store_give) (He.DefD.kws K d_Store_give) f fd) (Y : Fx K mg) : FnOk P w K mg base CX0 1 f fd ["self", "value"] (spS K 2 F_Store_give) := by
  refine fn_ok FD sc_Store_give fun cdv A outer s H E hr => ?_
  exact (sds_one (sd_setF Y.at (ed_var (pv 1)) (ed_var (pv 0))))
theorem ok_Store_give (Y : Fx K mg) : MtC P w K mg base "Store" "give" 1 ["self", "value"] [] F_Store_give := by
  obtain ⟨fd, FD⟩ := Y.c.def_ 13 (d := d_Store_give) rfl
  exact MtC.of FD (Y.c.fact 13) (Y.c.fact 26) rfl (ok_Store_give_fn FD Y) fun _ _ _ _ _ _ us hl => match us, hl with | [_, _], _ => rfl
theorem sc_law_cell : FnScope ["_law_script", "_law_k", "_law_seed"] ["_law_script", "_law_k"] (defScope s_law_cell) := ⟨rfl, rfl, rfl, by decide +kernel, rfl, by decide +kernel, by decide +kernel⟩
theorem ok_law_cell_fn {f : Addr} {fd : FuncData} (FD : FunD K d_law_cell.name d_law_cell.qual d_law_cell.params d_law_cell.body d_law_cell.scope (He.DefD.dvs K d_law_cell) (He.DefD.kws K d_law_cell) f fd) (Y : Fx K mg) : FnOk P w K mg base CX0 1 f fd ["_law_script", "_law_k"] (spS K 2 F_law_cell) := by
  refine fn_ok FD sc_law_cell fun cdv A outer s H E hr => ?_
  exact (sds_cons (sd_if (td_lt (ed_var (pv 1)) (ed_prim (fun ha => pe_callB (x := "len") call_lenAll (by rfl) Y.tb.len boot_len ha) ok_len (ad_cons (ed_var (pv 0)) ad_nil))) (sds_one (sd_ret (ed_ix hr (ed_var (pv 0)) (ed_var (pv 1)) (fun _ _ => rfl)))) sds_nil)
  (sds_cons (sd_set (ps_set (i := 2) sc_law_cell.nd rfl (by first | exact .inl rfl | exact .inr rfl) (ED.pe ed_int)))
  (sds_cons (sd_if (td_gt (ed_prim (fun ha => pe_callB (x := "len") call_lenAll (by rfl) Y.tb.len boot_len ha) ok_len (ad_cons (ed_var (pv 0)) ad_nil)) ed_int) (sds_one (sd_set (ps_set (i := 2) sc_law_cell.nd rfl (by first | exact .inl rfl | exact .inr rfl) (ED.pe (ed_mod (ed_ix hr (ed_var (pv 0)) (ed_mod (ed_var (pv 1)) (ed_prim (fun ha => pe_callB (x := "len") call_lenAll (by rfl) Y.tb.len boot_len ha) ok_len (ad_cons (ed_var (pv 0)) ad_nil))) (fun _ _ => rfl)) ed_int))))) sds_nil)
  (sds_one (sd_ret (ed_mod (ed_mul (ed_add (ed_add (ed_var (pv 2)) (ed_mul ed_int (ed_var (pv 1)))) ed_int) (ed_add (ed_add (ed_var (pv 2)) (ed_mul ed_int (ed_var (pv 1)))) ed_int)) ed_int))))))
theorem ok_law_cell (Y : Fx K mg) : FnC P w K mg base "_law_cell" 1 ["_law_script", "_law_k"] [] F_law_cell := by
  obtain ⟨fd, FD⟩ := Y.c.def_ 14 (d := d_law_cell) rfl
  exact FnC.of FD (Y.glo 0) (ok_law_cell_fn FD Y) fun _ _ _ _ _ _ us hl => match us, hl with | [_, _], _ => rfl
theorem sc_law_part : FnScope ["_law_cell_here", "_law_j", "_law_many", "_law_primes"] ["_law_cell_here", "_law_j", "_law_many"] (defScope s_law_part) := ⟨rfl, rfl, rfl, by decide +kernel, rfl, by decide +kernel, by decide +kernel⟩
theorem ok_law_part_fn {f : Addr} {fd : FuncData} (FD : FunD K d_law_part.name d_law_part.qual d_law_part.params d_law_part.body d_law_part.scope (He.DefD.dvs K d_law_part) (He.DefD.kws K d_law_part) f fd) (Y : Fx K mg) : FnOk P w K mg base CX0 1 f fd ["_law_cell_here", "_law_j", "_law_many"] (spS K 3 F_law_part) := by
  refine fn_ok FD sc_law_part fun cdv A outer s H E hr => ?_
  exact (sds_cons (sd_set (ps_set (i := 3) sc_law_part.nd rfl (by first | exact .inl rfl | exact .inr rfl) (ED.pe (ed_tup (ad_cons ed_int (ad_cons ed_int (ad_cons ed_int (ad_cons ed_int (ad_cons ed_int (ad_cons ed_int (ad_cons ed_int (ad_cons ed_int ad_nil))))))))))))
  (sds_one (sd_ret (ed_mod (ed_mod (ed_add (ed_mul (ed_var (pv 0)) ed_int) (ed_mul ed_int (ed_var (pv 1)))) (ed_ix hr (ed_var (pv 3)) (ed_mod (ed_var (pv 1)) ed_int) (fun _ _ => rfl))) (ed_var (pv 2))))))
theorem ok_law_part (Y : Fx K mg) : FnC P w K mg base "_law_part" 1 ["_law_cell_here", "_law_j", "_law_many"] [] F_law_part := by
  obtain ⟨fd, FD⟩ := Y.c.def_ 15 (d := d_law_part) rfl
  exact FnC.of FD (Y.glo 1) (ok_law_part_fn FD Y) fun _ _ _ _ _ _ us hl => match us, hl with | [_, _, _], _ => rfl
theorem sc_law_name : FnScope ["_law_base", "_law_k", "_law_letters", "_law_size", "_law_some", "_law_j"] ["_law_base", "_law_k"] (defScope s_law_name) := ⟨rfl, rfl, rfl, by decide +kernel, rfl, by decide +kernel, by decide +kernel⟩
theorem ok_law_name_fn {f : Addr} {fd : FuncData} (FD : FunD K d_law_name.name d_law_name.qual d_law_name.params d_law_name.body d_law_name.scope (He.DefD.dvs K d_law_name) (He.DefD.kws K d_law_name) f fd) (Y : Fx K mg) : FnOk P w K mg base CX0 2 f fd ["_law_base", "_law_k"] (spS K 2 F_law_name) := by
  refine fn_ok FD sc_law_name fun cdv A outer s H E hr => ?_
  exact (sds_cons (sd_set (ps_set (i := 2) sc_law_name.nd rfl (by first | exact .inl rfl | exact .inr rfl) (ED.pe ed_str)))
  (sds_cons (sd_set (ps_set (i := 3) sc_law_name.nd rfl (by first | exact .inl rfl | exact .inr rfl) (ED.pe (ed_add ed_int (ed_callP (ok_law_part Y) rfl hr (by decide) (by rfl) dd0 (ad_cons (ed_var (pv 0)) (ad_cons ed_int (ad_cons ed_int ad_nil))))))))
  (sds_cons (sd_setLcM (i := 4) (ps_setLc (own := [("_law_j", 5)]) rfl sc_law_name.nd rfl rfl rfl (Dn.ID.pi (id_range1 (ad_cons (ed_var (pv 3)) ad_nil) (fun ha => pi_range1 (by rfl) Y.tb.range ha))) (blkOk_by (by rfl)) (fun _ _ _ _ _ => (pg_name (i := 5) sc_law_name.nd rfl (by first | exact .inl rfl | exact .inr rfl))) (fun _ _ _ _ _ => pts_nil) (fun _ _ _ _ _ => (ED.pe (ed_ix hr (ed_var (pv 2)) (ed_callP (ok_law_part Y) rfl hr (by decide) (by rfl) dd0 (ad_cons (ed_var (pv 0)) (ad_cons (ed_var (pv 5)) (ad_cons ed_int ad_nil)))) (fun _ _ => rfl))))) (gw_name (by decide)) yes_of)
  (sds_cons (sd_sub (ps_asg (ED.pe (ed_ix hr (ed_var (pv 2)) (ed_mod (ed_add (ed_callP (ok_law_part Y) rfl hr (by decide) (by rfl) dd0 (ad_cons (ed_var (pv 0)) (ad_cons ed_int (ad_cons ed_int ad_nil)))) (ed_var (pv 1))) ed_int) (fun _ _ => rfl))) (pg_sub (ED.pe (ed_var (pv 4))) (ED.pe (ed_callP (ok_law_part Y) rfl hr (by decide) (by rfl) dd0 (ad_cons (ed_var (pv 0)) (ad_cons ed_int (ad_cons (ed_var (pv 3)) ad_nil))))) (PSet.or set_list (set_dict (hu1 hr))))))
  (sds_one (sd_ret (ed_m1 ok_join ed_str (ed_var (pv 4)) (fun ho hb => pe_join ho hb))))))))
theorem ok_law_name (Y : Fx K mg) : FnC P w K mg base "_law_name" 2 ["_law_base", "_law_k"] [] F_law_name := by
  obtain ⟨fd, FD⟩ := Y.c.def_ 16 (d := d_law_name) rfl
  exact FnC.of FD (Y.glo 2) (ok_law_name_fn FD Y) fun _ _ _ _ _ _ us hl => match us, hl with | [_, _], _ => rfl
theorem sc_law_program : FnScope ["_law_cell_here", "_law_base", "_law_sizes", "_law_cells", "_law_k", "_law_shelves"] ["_law_cell_here", "_law_base"] (defScope s_law_program) := ⟨rfl, rfl, rfl, by decide +kernel, rfl, by decide +kernel, by decide +kernel⟩
theorem ok_law_program_fn {f : Addr} {fd : FuncData} (FD : FunD K d_law_program.name d_law_program.qual d_law_program.params d_law_program.body d_law_program.scope (He.DefD.dvs K d_law_program) (He.DefD.kws K d_law_program) f fd) (Y : Fx K mg) : FnOk P w K mg base CX0 3 f fd ["_law_cell_here", "_law_base"] (spS K 2 F_law_program) := by
  refine fn_ok FD sc_law_program fun cdv A outer s H E hr => ?_
  exact (sds_cons (sd_set (ps_set (i := 2) sc_law_program.nd rfl (by first | exact .inl rfl | exact .inr rfl) (ED.pe (ed_lst (ad_cons (ed_callP (ok_law_part Y) rfl hr (by decide) (by rfl) dd0 (ad_cons (ed_var (pv 0)) (ad_cons ed_int (ad_cons ed_int ad_nil)))) (ad_cons (ed_callP (ok_law_part Y) rfl hr (by decide) (by rfl) dd0 (ad_cons (ed_var (pv 0)) (ad_cons ed_int (ad_cons ed_int ad_nil)))) ad_nil))))))
  (sds_cons (sd_if (td_eq hr (ed_callP (ok_law_part Y) rfl hr (by decide) (by rfl) dd0 (ad_cons (ed_var (pv 0)) (ad_cons ed_int (ad_cons ed_int ad_nil)))) ed_int) (sds_one (sd_set (ps_set (i := 2) sc_law_program.nd rfl (by first | exact .inl rfl | exact .inr rfl) (ED.pe (ed_lst (ad_cons ed_int (ad_cons ed_int ad_nil))))))) sds_nil)
  (sds_cons (sd_set (ps_set (i := 3) sc_law_program.nd rfl (by first | exact .inl rfl | exact .inr rfl) (ED.pe (ed_lstM ad_nil))))
  (sds_cons (sd_for (ps_for PassesOwn.never rfl (Dn.ID.pi (id_range1 (ad_cons (ed_ix hr (ed_var (pv 2)) ed_int (fun _ _ => rfl)) ad_nil) (fun ha => pi_range1 (by rfl) Y.tb.range ha))) (GD.pg (gd_name (pg_name (i := 4) sc_law_program.nd rfl (by first | exact .inl rfl | exact .inr rfl)))) (SDs.ps (sds_one (sd_expr (ed_mt ok_append (ed_var (pv 3)) (ad_cons (ed_tup (ad_cons (ed_callP (ok_law_name Y) rfl hr (by decide) (by rfl) dd0 (ad_cons (ed_var (pv 1)) (ad_cons (ed_var (pv 4)) ad_nil))) (ad_cons (ed_mod (ed_mul (ed_add (ed_var (pv 0)) (ed_mul ed_int (ed_var (pv 4)))) ed_int) (ed_pow ed_int ed_int)) (ad_cons (ed_eq hr (ed_callP (ok_law_part Y) rfl hr (by decide) (by rfl) dd0 (ad_cons (ed_add (ed_var (pv 0)) (ed_var (pv 4))) (ad_cons ed_int (ad_cons ed_int ad_nil)))) ed_int) ad_nil)))) ad_nil) (fun ho ha => pe_bm PySem.F.plainAttrs_list PySem.F.slot_list_append PySem.F.type_list_append mt_append ho ha)))))))
  (sds_cons (sd_set (ps_set (i := 5) sc_law_program.nd rfl (by first | exact .inl rfl | exact .inr rfl) (ED.pe (ed_lstM ad_nil))))
  (sds_cons (sd_for (ps_for PassesOwn.never rfl (Dn.ID.pi (id_range1 (ad_cons (ed_ix hr (ed_var (pv 2)) ed_int (fun _ _ => rfl)) ad_nil) (fun ha => pi_range1 (by rfl) Y.tb.range ha))) (GD.pg (gd_name (pg_name (i := 4) sc_law_program.nd rfl (by first | exact .inl rfl | exact .inr rfl)))) (SDs.ps (sds_one (sd_expr (ed_mt ok_append (ed_var (pv 5)) (ad_cons (ed_tup (ad_cons (ed_callP (ok_law_name Y) rfl hr (by decide) (by rfl) dd0 (ad_cons (ed_var (pv 1)) (ad_cons (ed_add ed_int (ed_var (pv 4))) ad_nil))) (ad_cons (ed_add ed_int (ed_callP (ok_law_part Y) rfl hr (by decide) (by rfl) dd0 (ad_cons (ed_add (ed_var (pv 0)) (ed_var (pv 4))) (ad_cons ed_int (ad_cons ed_int ad_nil))))) (ad_cons (ed_eq hr (ed_callP (ok_law_part Y) rfl hr (by decide) (by rfl) dd0 (ad_cons (ed_add (ed_var (pv 0)) (ed_var (pv 4))) (ad_cons ed_int (ad_cons ed_int ad_nil)))) ed_int) ad_nil)))) ad_nil) (fun ho ha => pe_bm PySem.F.plainAttrs_list PySem.F.slot_list_append PySem.F.type_list_append mt_append ho ha)))))))
  (sds_one (sd_ret (ed_tup (ad_cons (ed_prim (fun ha => pe_callTy (x := "tuple") call_tupAll (by rfl) Y.tb.tuple boot_tuple ha) ok_tuple (ad_cons (ed_var (pv 3)) ad_nil)) (ad_cons (ed_prim (fun ha => pe_callTy (x := "tuple") call_tupAll (by rfl) Y.tb.tuple boot_tuple ha) ok_tuple (ad_cons (ed_var (pv 5)) ad_nil)) (ad_cons (ed_mulT (ed_tup (ad_cons (ed_tup (ad_cons ed_str (ad_cons ed_int ad_nil))) ad_nil)) ed_int) ad_nil))))))))))))
theorem ok_law_program (Y : Fx K mg) : FnC P w K mg base "_law_program" 3 ["_law_cell_here", "_law_base"] [] F_law_program := by
  obtain ⟨fd, FD⟩ := Y.c.def_ 17 (d := d_law_program) rfl
  exact FnC.of FD (Y.glo 3) (ok_law_program_fn FD Y) fun _ _ _ _ _ _ us hl => match us, hl with | [_, _], _ => rfl
theorem sc_law_model : FnScope ["_law_program_here", "_law_begin", "_law_home", "_law_front", "_law_name_here", "_law_start", "_law_twin", "_law_size", "_law_place"] ["_law_program_here", "_law_begin"] (defScope s_law_model) := ⟨rfl, rfl, rfl, by decide +kernel, rfl, by decide +kernel, by decide +kernel⟩
theorem ok_law_model_fn {f : Addr} {fd : FuncData} (FD : FunD K d_law_model.name d_law_model.qual d_law_model.params d_law_model.body d_law_model.scope (He.DefD.dvs K d_law_model) (He.DefD.kws K d_law_model) f fd) (Y : Fx K mg) : FnOk P w K mg base CX0 1 f fd ["_law_program_here", "_law_begin"] (spS K 2 F_law_model) := by
  refine fn_ok FD sc_law_model fun cdv A outer s H E hr => ?_
  exact (sds_cons (sd_set (ps_set (i := 2) sc_law_model.nd rfl (by first | exact .inl rfl | exact .inr rfl) (ED.pe (ed_dnewT pe_dnewT))))
  (sds_cons (sd_for (ps_for PassesOwn.never rfl (Dn.ID.pi (id_seq (ed_ix hr (ed_var (pv 0)) ed_int (fun _ _ => rfl)))) (GD.pg (gd_t rfl (gds_c (gd_name (pg_name (i := 4) sc_law_model.nd rfl (by first | exact .inl rfl | exact .inr rfl))) (gds_c (gd_name (pg_name (i := 5) sc_law_model.nd rfl (by first | exact .inl rfl | exact .inr rfl))) (gds_c (gd_name (pg_name (i := 6) sc_law_model.nd rfl (by first | exact .inl rfl | exact .inr rfl))) gds_nil))))) (SDs.ps (sds_one (sd_sub (ps_asg (ED.pe (ed_var (pv 5))) (pg_sub (ED.pe (ed_var (pv 2))) (ED.pe (ed_tup (ad_cons (ed_var (pv 4)) (ad_cons ed_int ad_nil)))) (PSet.or set_list (set_dict (hu1 hr))))))))))
  (sds_cons (sd_for (ps_for PassesOwn.never rfl (Dn.ID.pi (id_seq (ed_ix hr (ed_var (pv 0)) ed_int (fun _ _ => rfl)))) (GD.pg (gd_t rfl (gds_c (gd_name (pg_name (i := 4) sc_law_model.nd rfl (by first | exact .inl rfl | exact .inr rfl))) (gds_c (gd_name (pg_name (i := 7) sc_law_model.nd rfl (by first | exact .inl rfl | exact .inr rfl))) (gds_c (gd_name (pg_name (i := 6) sc_law_model.nd rfl (by first | exact .inl rfl | exact .inr rfl))) gds_nil))))) (SDs.ps (sds_one (sd_for (ps_for PassesOwn.never rfl (Dn.ID.pi (id_range1 (ad_cons (ed_var (pv 7)) ad_nil) (fun ha => pi_range1 (by rfl) Y.tb.range ha))) (GD.pg (gd_name (pg_name (i := 8) sc_law_model.nd rfl (by first | exact .inl rfl | exact .inr rfl)))) (SDs.ps (sds_one (sd_sub (ps_asg (ED.pe ed_int) (pg_sub (ED.pe (ed_var (pv 2))) (ED.pe (ed_tup (ad_cons (ed_var (pv 4)) (ad_cons (ed_var (pv 8)) ad_nil)))) (PSet.or set_list (set_dict (hu1 hr))))))))))))))
  (sds_cons (sd_set (ps_set (i := 3) sc_law_model.nd rfl (by first | exact .inl rfl | exact .inr rfl) (ED.pe (ed_lstM (ad_cons (ed_lstM (ad_cons ed_int (ad_cons ed_int (ad_cons ed_int (ad_cons ed_int ad_nil))))) (ad_cons (ed_lcM (pe_lc (own := [("_law_name_here", 4)]) rfl sc_law_model.nd (Dn.ID.pi (id_seq (ed_var (pv 1)))) (blkOk_by (by rfl)) (fun _ _ _ _ _ => (pg_name (i := 4) sc_law_model.nd rfl (by first | exact .inl rfl | exact .inr rfl))) (fun _ _ _ _ _ => pts_nil) (fun _ _ _ _ _ => (ED.pe (ed_tup (ad_cons (ed_var (pv 4)) (ad_cons ed_int ad_nil)))))) (gw_name (by decide)) yes_of) (ad_cons (ed_lstM ad_nil) ad_nil)))))))
  (sds_one (sd_ret (ed_disp (ppd_cons ed_str (ed_var (pv 2)) (ppd_cons ed_str (ed_lstM (ad_cons (ed_var (pv 3)) (ad_cons (ed_lstM (ad_cons (ed_lstM (ad_cons ed_int (ad_cons ed_int (ad_cons ed_int (ad_cons ed_int ad_nil))))) (ad_cons (ed_lstM ad_nil) (ad_cons (ed_lstM ad_nil) ad_nil)))) ad_nil))) (ppd_cons ed_str (ed_lstM (ad_cons ed_int ad_nil)) (ppd_cons ed_str (ed_lstM (ad_cons ed_non ad_nil)) ppd_nil)))))))))))
theorem ok_law_model (Y : Fx K mg) : FnC P w K mg base "_law_model" 1 ["_law_program_here", "_law_begin"] [] F_law_model := by
  obtain ⟨fd, FD⟩ := Y.c.def_ 18 (d := d_law_model) rfl
  exact FnC.of FD (Y.glo 4) (ok_law_model_fn FD Y) fun _ _ _ _ _ _ us hl => match us, hl with | [_, _], _ => rfl
theorem sc_law_same : FnScope ["_law_found", "_law_due", "_law_k"] ["_law_found", "_law_due"] (defScope s_law_same) := ⟨rfl, rfl, rfl, by decide +kernel, rfl, by decide +kernel, by decide +kernel⟩
theorem ok_law_same_fn0 {f : Addr} {fd : FuncData} (FD : FunD K d_law_same.name d_law_same.qual d_law_same.params d_law_same.body d_law_same.scope (He.DefD.dvs K d_law_same) (He.DefD.kws K d_law_same) f fd) (Y : Fx K mg) : FnOk P w K mg base CX0 1 f fd ["_law_found", "_law_due"] (spS K 2 (runF 2 3 (br_law_same 0))) := by
  refine fn_ok FD sc_law_same fun cdv A outer s H E hr => ?_
  exact SDs.none
theorem ok_law_same_fnS {k : Nat} {bR : DS} (OK : FnC P w K mg base "_law_same" k ["_law_found", "_law_due"] [] (runF 2 3 bR)) {f : Addr} {fd : FuncData} (FD : FunD K d_law_same.name d_law_same.qual d_law_same.params d_law_same.body d_law_same.scope (He.DefD.dvs K d_law_same) (He.DefD.kws K d_law_same) f fd) (Y : Fx K mg) : FnOk P w K mg base CX0 (k + 1) f fd ["_law_found", "_law_due"] (spS K 2 (runF 2 3 (b_law_same bR))) := by
  refine fn_ok FD sc_law_same fun cdv A outer s H E hr => ?_
  exact (sds_cons (sd_if (td_val (e_isi (T7 := .int) Y.tb Y.tb.int (by decide) (by rfl) (by rfl) boot_int (ed_var (pv 1)))) (sds_one (sd_ret (ed_and (e_isi (T7 := .int) Y.tb Y.tb.int (by decide) (by rfl) (by rfl) boot_int (ed_var (pv 0))) (ed_and (ed_not (e_isi (T7 := .bool) Y.tb Y.tb.bool (by decide) (by rfl) (by rfl) boot_bool (ed_var (pv 0)))) (ed_one (ed_eq hr (ed_var (pv 0)) (ed_var (pv 1)))))))) sds_nil)
  (sds_cons (sd_if (td_val (e_isi (T7 := .tuple) Y.tb Y.tb.tuple (by decide) (by rfl) (by rfl) boot_tuple (ed_var (pv 1)))) (sds_cons (sd_if (TDW.td (tw_or (td_not (td_val (e_isi (T7 := .tuple) Y.tb Y.tb.tuple (by decide) (by rfl) (by rfl) boot_tuple (ed_var (pv 0))))) (tw_or1 (td_ne hr (ed_prim (fun ha => pe_callB (x := "len") call_lenAll (by rfl) Y.tb.len boot_len ha) ok_len (ad_cons (ed_var (pv 0)) ad_nil)) (ed_prim (fun ha => pe_callB (x := "len") call_lenAll (by rfl) Y.tb.len boot_len ha) ok_len (ad_cons (ed_var (pv 1)) ad_nil)))))) (sds_one (sd_ret ed_bl)) sds_nil)
  (sds_one (sd_ret (ed_prim (fun ha => pe_callB (x := "all") (cr_all rfl) (by rfl) Y.tb.all boot_all ha) ok_all (ad_cons (ed_lc (pe_lc (own := [("_law_k", 2)]) rfl sc_law_same.nd (Dn.ID.pi (id_range1 (ad_cons (ed_prim (fun ha => pe_callB (x := "len") call_lenAll (by rfl) Y.tb.len boot_len ha) ok_len (ad_cons (ed_var (pv 1)) ad_nil)) ad_nil) (fun ha => pi_range1 (by rfl) Y.tb.range ha))) (blkOk_by (by rfl)) (fun _ _ _ _ _ => (pg_name (i := 2) sc_law_same.nd rfl (by first | exact .inl rfl | exact .inr rfl))) (fun _ _ _ _ _ => pts_nil) (fun _ _ _ _ _ => (ED.pe (ed_callS OK rfl hr (Nat.le_refl _) (by rfl) dd0 (ad_cons (ed_ix hr (ed_var (pv 0)) (ed_var (pv 2)) (fun _ _ => rfl)) (ad_cons (ed_ix hr (ed_var (pv 1)) (ed_var (pv 2)) (fun _ _ => rfl)) ad_nil)))))) (gw_name (by decide)) yes_of) ad_nil))))) sds_nil)
  (sds_cons (sd_if (td_val (e_isi (T7 := .list) Y.tb Y.tb.list (by decide) (by rfl) (by rfl) boot_list (ed_var (pv 1)))) (sds_cons (sd_if (TDW.td (tw_or (td_not (td_val (e_isi (T7 := .list) Y.tb Y.tb.list (by decide) (by rfl) (by rfl) boot_list (ed_var (pv 0))))) (tw_or1 (td_ne hr (ed_prim (fun ha => pe_callB (x := "len") call_lenAll (by rfl) Y.tb.len boot_len ha) ok_len (ad_cons (ed_var (pv 0)) ad_nil)) (ed_prim (fun ha => pe_callB (x := "len") call_lenAll (by rfl) Y.tb.len boot_len ha) ok_len (ad_cons (ed_var (pv 1)) ad_nil)))))) (sds_one (sd_ret ed_bl)) sds_nil)
  (sds_one (sd_ret (ed_prim (fun ha => pe_callB (x := "all") (cr_all rfl) (by rfl) Y.tb.all boot_all ha) ok_all (ad_cons (ed_lc (pe_lc (own := [("_law_k", 2)]) rfl sc_law_same.nd (Dn.ID.pi (id_range1 (ad_cons (ed_prim (fun ha => pe_callB (x := "len") call_lenAll (by rfl) Y.tb.len boot_len ha) ok_len (ad_cons (ed_var (pv 1)) ad_nil)) ad_nil) (fun ha => pi_range1 (by rfl) Y.tb.range ha))) (blkOk_by (by rfl)) (fun _ _ _ _ _ => (pg_name (i := 2) sc_law_same.nd rfl (by first | exact .inl rfl | exact .inr rfl))) (fun _ _ _ _ _ => pts_nil) (fun _ _ _ _ _ => (ED.pe (ed_callS OK rfl hr (Nat.le_refl _) (by rfl) dd0 (ad_cons (ed_ix hr (ed_var (pv 0)) (ed_var (pv 2)) (fun _ _ => rfl)) (ad_cons (ed_ix hr (ed_var (pv 1)) (ed_var (pv 2)) (fun _ _ => rfl)) ad_nil)))))) (gw_name (by decide)) yes_of) ad_nil))))) sds_nil)
  (sds_one (sd_ret (ed_eq hr (ed_var (pv 0)) (ed_var (pv 1))))))))
theorem ok_law_same_n (Y : Fx K mg) : ∀ n, FnC P w K mg base "_law_same" (1 + n) ["_law_found", "_law_due"] [] (runF 2 3 (br_law_same n))
  | 0 => by
    obtain ⟨fd, FD⟩ := Y.c.def_ 19 (d := d_law_same) rfl
    exact FnC.of FD (Y.glo 5) (ok_law_same_fn0 FD Y) fun _ _ _ _ _ _ us hl => match us, hl with | [_, _], _ => rfl
  | n + 1 => by
    obtain ⟨fd, FD⟩ := Y.c.def_ 19 (d := d_law_same) rfl
    exact FnC.of FD (Y.glo 5) (ok_law_same_fnS (ok_law_same_n Y n) FD Y) fun _ _ _ _ _ _ us hl => match us, hl with | [_, _], _ => rfl
theorem ok_law_same (Y : Fx K mg) : FnC P w K mg base "_law_same" 7 ["_law_found", "_law_due"] [] F_law_same := ok_law_same_n Y 6
theorem sc_law_told : FnScope ["_law_store", "_law_program_here", "_law_model_here", "_law_number", "_law_name_here", "_law_start", "_law_twin", "_law_size", "_law_due", "_law_found", "_law_place", "_law_page", "_law_head", "_law_boxes", "_law_turns"] ["_law_store", "_law_program_here", "_law_model_here"] (defScope s_law_told) := ⟨rfl, rfl, rfl, by decide +kernel, rfl, by decide +kernel, by decide +kernel⟩
theorem ok_law_told_fn {f : Addr} {fd : FuncData} (FD : FunD K d_law_told.name d_law_told.qual d_law_told.params d_law_told.body d_law_told.scope (He.DefD.dvs K d_law_told) (He.DefD.kws K d_law_told) f fd) (Y : Fx K mg) : FnOk P w K mg base CX0 8 f fd ["_law_store", "_law_program_here", "_law_model_here"] (spS K 3 F_law_told) := by
  refine fn_ok FD sc_law_told fun cdv A outer s H E hr => ?_
  exact (sds_cons (sd_for (ps_for PassesOwn.never rfl (Dn.ID.pi (id_seq (ed_ix hr (ed_var (pv 1)) ed_int (fun _ _ => rfl)))) (GD.pg (gd_t rfl (gds_c (gd_name (pg_name (i := 4) sc_law_told.nd rfl (by first | exact .inl rfl | exact .inr rfl))) (gds_c (gd_name (pg_name (i := 5) sc_law_told.nd rfl (by first | exact .inl rfl | exact .inr rfl))) (gds_c (gd_name (pg_name (i := 6) sc_law_told.nd rfl (by first | exact .inl rfl | exact .inr rfl))) gds_nil))))) (SDs.ps (sds_one (sd_if (td_not (td_val (ed_callP (ok_law_same Y) rfl hr (by decide) (by rfl) dd0 (ad_cons (ed_meth (ok_Store_cell Y) rfl hr (by decide) dd0 (ed_var (pv 0)) (ad_cons (ed_var (pv 4)) ad_nil)) (ad_cons (ed_ix hr (ed_ix hr (ed_var (pv 2)) ed_str (fun _ _ => rfl)) (ed_tup (ad_cons (ed_var (pv 4)) (ad_cons ed_int ad_nil))) (fun _ _ => rfl)) ad_nil))))) (sds_one (sd_ret ed_bl)) sds_nil)))))
  (sds_cons (sd_for (ps_for PassesOwn.never rfl (Dn.ID.pi (id_seq (ed_ix hr (ed_var (pv 1)) ed_int (fun _ _ => rfl)))) (GD.pg (gd_t rfl (gds_c (gd_name (pg_name (i := 4) sc_law_told.nd rfl (by first | exact .inl rfl | exact .inr rfl))) (gds_c (gd_name (pg_name (i := 7) sc_law_told.nd rfl (by first | exact .inl rfl | exact .inr rfl))) (gds_c (gd_name (pg_name (i := 6) sc_law_told.nd rfl (by first | exact .inl rfl | exact .inr rfl))) gds_nil))))) (SDs.ps (sds_cons (sd_setLc (i := 8) (ps_setLc (own := [("_law_place", 10)]) rfl sc_law_told.nd rfl rfl rfl (Dn.ID.pi (id_range1 (ad_cons (ed_var (pv 7)) ad_nil) (fun ha => pi_range1 (by rfl) Y.tb.range ha))) (blkOk_by (by rfl)) (fun _ _ _ _ _ => (pg_name (i := 10) sc_law_told.nd rfl (by first | exact .inl rfl | exact .inr rfl))) (fun _ _ _ _ _ => pts_nil) (fun _ _ _ _ _ => (ED.pe (ed_ix hr (ed_ix hr (ed_var (pv 2)) ed_str (fun _ _ => rfl)) (ed_tup (ad_cons (ed_var (pv 4)) (ad_cons (ed_var (pv 10)) ad_nil))) (fun _ _ => rfl))))) (gw_name (by decide)) yes_of)
  (sds_cons (sd_set (ps_set (i := 9) sc_law_told.nd rfl (by first | exact .inl rfl | exact .inr rfl) (ED.pe (ed_meth (ok_Store_shelf Y) rfl hr (by decide) dd0 (ed_var (pv 0)) (ad_cons (ed_var (pv 4)) ad_nil)))))
  (sds_cons (sd_if (td_not (td_val (ed_callP (ok_law_same Y) rfl hr (by decide) (by rfl) dd0 (ad_cons (ed_var (pv 9)) (ad_cons (ed_var (pv 8)) ad_nil))))) (sds_one (sd_ret ed_bl)) sds_nil)
  (sds_one (sd_expr (ed_mt0 ok_clear (ed_var (pv 9)) (fun ho => pe_bm0 PySem.F.plainAttrs_list PySem.F.slot_list_clear PySem.F.type_list_clear mt_clear ho))))))))))
  (sds_cons (sd_forK (ps_for PassesOwn.never rfl (Dn.ID.pi (id_keyL (ed_ix hr (ed_var (pv 2)) ed_str (fun _ _ => rfl)))) (GD.pg (gd_t rfl (gds_c (gd_name (pg_name (i := 4) sc_law_told.nd rfl (by first | exact .inl rfl | exact .inr rfl))) (gds_c (gd_name (pg_name (i := 10) sc_law_told.nd rfl (by first | exact .inl rfl | exact .inr rfl))) gds_nil)))) (SDs.ps (sds_one (sd_if (td_not (td_val (ed_callP (ok_law_same Y) rfl hr (by decide) (by rfl) dd0 (ad_cons (ed_meth (ok_Store_get_home Y) rfl hr (by decide) dd0 (ed_var (pv 0)) (ad_cons (ed_var (pv 4)) (ad_cons (ed_var (pv 10)) ad_nil))) (ad_cons (ed_ix hr (ed_ix hr (ed_var (pv 2)) ed_str (fun _ _ => rfl)) (ed_tup (ad_cons (ed_var (pv 4)) (ad_cons (ed_var (pv 10)) ad_nil))) (fun _ _ => rfl)) ad_nil))))) (sds_one (sd_ret ed_bl)) sds_nil)))))
  (sds_cons (sd_for (ps_for PassesOwn.never rfl (Dn.ID.pi (id_range1 (ad_cons ed_int ad_nil) (fun ha => pi_range1 (by rfl) Y.tb.range ha))) (GD.pg (gd_name (pg_name (i := 3) sc_law_told.nd rfl (by first | exact .inl rfl | exact .inr rfl)))) (SDs.ps (sds_cons (sd_asg (ps_asg (ED.pe (ed_ix hr (ed_ix hr (ed_var (pv 2)) ed_str (fun _ _ => rfl)) (ed_var (pv 3)) (fun _ _ => rfl))) (GD.pg (gd_l rfl (gds_c (gd_name (pg_name (i := 12) sc_law_told.nd rfl (by first | exact .inl rfl | exact .inr rfl))) (gds_c (gd_name (pg_name (i := 13) sc_law_told.nd rfl (by first | exact .inl rfl | exact .inr rfl))) (gds_c (gd_name (pg_name (i := 14) sc_law_told.nd rfl (by first | exact .inl rfl | exact .inr rfl))) gds_nil)))))))
  (sds_cons (sd_set (ps_set (i := 11) sc_law_told.nd rfl (by first | exact .inl rfl | exact .inr rfl) (ED.pe (ed_meth (ok_Store_page Y) rfl hr (by decide) dd0 (ed_var (pv 0)) (ad_cons (ed_var (pv 3)) ad_nil)))))
  (sds_cons (sd_if (td_not (td_val (ed_callP (ok_law_same Y) rfl hr (by decide) (by rfl) dd0 (ad_cons (ed_var (pv 11)) (ad_cons (ed_add (ed_prim (fun ha => pe_callTy (x := "tuple") call_tupAll (by rfl) Y.tb.tuple boot_tuple ha) ok_tuple (ad_cons (ed_var (pv 12)) ad_nil)) (ed_tup (ad_cons (ed_var (pv 13)) (ad_cons (ed_var (pv 14)) ad_nil)))) ad_nil))))) (sds_one (sd_ret ed_bl)) sds_nil)
  (sds_cons (sd_expr (ed_mt ok_append (ed_ix hr (ed_var (pv 11)) ed_int (fun _ _ => rfl)) (ad_cons (ed_tup (ad_cons ed_str (ad_cons ed_int ad_nil))) ad_nil) (fun ho ha => pe_bm PySem.F.plainAttrs_list PySem.F.slot_list_append PySem.F.type_list_append mt_append ho ha)))
  (sds_one (sd_expr (ed_mt0 ok_clear (ed_ix hr (ed_var (pv 11)) ed_int (fun _ _ => rfl)) (fun ho => pe_bm0 PySem.F.plainAttrs_list PySem.F.slot_list_clear PySem.F.type_list_clear mt_clear ho)))))))))))
  (sds_cons (sd_if (td_not (td_val (ed_callP (ok_law_same Y) rfl hr (by decide) (by rfl) dd0 (ad_cons (ed_meth0 (ok_Store_face Y) rfl hr (by decide) dd0 (ed_var (pv 0))) (ad_cons (ed_ix hr (ed_ix hr (ed_var (pv 2)) ed_str (fun _ _ => rfl)) ed_int (fun _ _ => rfl)) ad_nil))))) (sds_one (sd_ret ed_bl)) sds_nil)
  (sds_cons (sd_if (td_is (ed_ix hr (ed_ix hr (ed_var (pv 2)) ed_str (fun _ _ => rfl)) ed_int (fun _ _ => rfl)) ed_non) (sds_one (sd_ret (ed_is (ed_meth0 (ok_Store_answer Y) rfl hr (by decide) dd0 (ed_var (pv 0))) ed_non))) sds_nil)
  (sds_one (sd_ret (ed_callP (ok_law_same Y) rfl hr (by decide) (by rfl) dd0 (ad_cons (ed_meth0 (ok_Store_answer Y) rfl hr (by decide) dd0 (ed_var (pv 0))) (ad_cons (ed_ix hr (ed_ix hr (ed_var (pv 2)) ed_str (fun _ _ => rfl)) ed_int (fun _ _ => rfl)) ad_nil)))))))))))
theorem ok_law_told (Y : Fx K mg) : FnC P w K mg base "_law_told" 8 ["_law_store", "_law_program_here", "_law_model_here"] [] F_law_told := by
  obtain ⟨fd, FD⟩ := Y.c.def_ 20 (d := d_law_told) rfl
  exact FnC.of FD (Y.glo 6) (ok_law_told_fn FD Y) fun _ _ _ _ _ _ us hl => match us, hl with | [_, _, _], _ => rfl
theorem sc_law_deed : FnScope ["_law_store", "_law_model_here", "_law_cell_here", "_law_number", "_law_back", "_law_seats", "_law_kind", "_law_box", "_law_head", "_law_name_here", "_law_place"] ["_law_store", "_law_model_here", "_law_cell_here"] (defScope s_law_deed) := ⟨rfl, rfl, rfl, by decide +kernel, rfl, by decide +kernel, by decide +kernel⟩
theorem ok_law_deed_fn {f : Addr} {fd : FuncData} (FD : FunD K d_law_deed.name d_law_deed.qual d_law_deed.params d_law_deed.body d_law_deed.scope (He.DefD.dvs K d_law_deed) (He.DefD.kws K d_law_deed) f fd) (Y : Fx K mg) : FnOk P w K mg base CX0 4 f fd ["_law_store", "_law_model_here", "_law_cell_here"] (spS K 3 F_law_deed) := by
  refine fn_ok FD sc_law_deed fun cdv A outer s H E hr => ?_
  exact (sds_cons (sd_set (ps_set (i := 3) sc_law_deed.nd rfl (by first | exact .inl rfl | exact .inr rfl) (ED.pe (ed_mod (ed_mul (ed_var (pv 2)) ed_int) (ed_pow ed_int ed_int)))))
  (sds_cons (sd_set (ps_set (i := 4) sc_law_deed.nd rfl (by first | exact .inl rfl | exact .inr rfl) (ED.pe (ed_sub ed_int (ed_ix hr (ed_ix hr (ed_var (pv 1)) ed_str (fun _ _ => rfl)) ed_int (fun _ _ => rfl))))))
  (sds_cons (sd_set (ps_set (i := 5) sc_law_deed.nd rfl (by first | exact .inl rfl | exact .inr rfl) (ED.pe (ed_prim (fun ha => pe_callTy (x := "list") (call_listAll rfl) (by rfl) Y.tb.list boot_list ha) ok_list (ad_cons (ed_ix hr (ed_var (pv 1)) ed_str (fun _ _ => rfl)) ad_nil)))))
  (sds_cons (sd_set (ps_set (i := 6) sc_law_deed.nd rfl (by first | exact .inl rfl | exact .inr rfl) (ED.pe (ed_callP (ok_law_part Y) rfl hr (by decide) (by rfl) dd0 (ad_cons (ed_var (pv 2)) (ad_cons ed_int (ad_cons ed_int ad_nil)))))))
  (sds_cons (sd_if (TDW.td (tw_and (td_lt (ed_var (pv 6)) ed_int) (tw_and1 (td_ne hr (ed_var (pv 5)) (ed_lst ad_nil))))) (sds_cons (sd_asg (ps_asg (ED.pe (ed_ix hr (ed_var (pv 5)) (ed_callP (ok_law_part Y) rfl hr (by decide) (by rfl) dd0 (ad_cons (ed_var (pv 2)) (ad_cons ed_int (ad_cons (ed_prim (fun ha => pe_callB (x := "len") call_lenAll (by rfl) Y.tb.len boot_len ha) ok_len (ad_cons (ed_var (pv 5)) ad_nil)) ad_nil)))) (fun _ _ => rfl))) (GD.pg (gd_t rfl (gds_c (gd_name (pg_name (i := 9) sc_law_deed.nd rfl (by first | exact .inl rfl | exact .inr rfl))) (gds_c (gd_name (pg_name (i := 10) sc_law_deed.nd rfl (by first | exact .inl rfl | exact .inr rfl))) gds_nil))))))
  (sds_cons (sd_if (td_lt (ed_var (pv 6)) ed_int) (sds_cons (sd_sub (ps_asg (ED.pe (ed_var (pv 3))) (pg_sub (ED.pe (ed_ix hr (ed_var (pv 1)) ed_str (fun _ _ => rfl))) (ED.pe (ed_tup (ad_cons (ed_var (pv 9)) (ad_cons (ed_var (pv 10)) ad_nil)))) (PSet.or set_list (set_dict (hu1 hr))))))
  (sds_one (sd_ret (ed_meth (ok_Store_put Y) rfl hr (by decide) dd0 (ed_var (pv 0)) (ad_cons (ed_var (pv 9)) (ad_cons (ed_var (pv 10)) (ad_cons (ed_var (pv 3)) ad_nil))))))) sds_nil)
  (sds_cons (sd_expr (ed_mt ok_append (ed_ix hr (ed_ix hr (ed_ix hr (ed_var (pv 1)) ed_str (fun _ _ => rfl)) (ed_var (pv 4)) (fun _ _ => rfl)) ed_int (fun _ _ => rfl)) (ad_cons (ed_tup (ad_cons (ed_tup (ad_cons (ed_var (pv 9)) (ad_cons (ed_var (pv 10)) ad_nil))) (ad_cons (ed_var (pv 3)) ad_nil))) ad_nil) (fun ho ha => pe_bm PySem.F.plainAttrs_list PySem.F.slot_list_append PySem.F.type_list_append mt_append ho ha)))
  (sds_one (sd_ret (ed_meth (ok_Store_keep_turn Y) rfl hr (by decide) dd0 (ed_var (pv 0)) (ad_cons (ed_var (pv 9)) (ad_cons (ed_var (pv 10)) (ad_cons (ed_var (pv 3)) ad_nil))))))))) sds_nil)
  (sds_cons (sd_if (td_lt (ed_var (pv 6)) ed_int) (sds_cons (sd_set (ps_set (i := 7) sc_law_deed.nd rfl (by first | exact .inl rfl | exact .inr rfl) (ED.pe (ed_callP (ok_law_name Y) rfl hr (by decide) (by rfl) dd0 (ad_cons (ed_var (pv 2)) (ad_cons (ed_callP (ok_law_part Y) rfl hr (by decide) (by rfl) dd0 (ad_cons (ed_var (pv 2)) (ad_cons ed_int (ad_cons ed_int ad_nil)))) ad_nil))))))
  (sds_cons (sd_expr (ed_mt ok_append (ed_ix hr (ed_ix hr (ed_ix hr (ed_var (pv 1)) ed_str (fun _ _ => rfl)) (ed_var (pv 4)) (fun _ _ => rfl)) ed_int (fun _ _ => rfl)) (ad_cons (ed_tup (ad_cons (ed_var (pv 7)) (ad_cons (ed_var (pv 3)) ad_nil))) ad_nil) (fun ho ha => pe_bm PySem.F.plainAttrs_list PySem.F.slot_list_append PySem.F.type_list_append mt_append ho ha)))
  (sds_one (sd_ret (ed_meth (ok_Store_keep_box Y) rfl hr (by decide) dd0 (ed_var (pv 0)) (ad_cons (ed_var (pv 7)) (ad_cons (ed_var (pv 3)) ad_nil))))))) sds_nil)
  (sds_cons (sd_if (td_eq hr (ed_var (pv 6)) ed_int) (sds_cons (sd_set (ps_set (i := 8) sc_law_deed.nd rfl (by first | exact .inl rfl | exact .inr rfl) (ED.pe (ed_lstM (ad_cons (ed_callP (ok_law_part Y) rfl hr (by decide) (by rfl) dd0 (ad_cons (ed_var (pv 2)) (ad_cons ed_int (ad_cons ed_int ad_nil)))) (ad_cons (ed_mod (ed_var (pv 3)) ed_int) (ad_cons (ed_mod (ed_div (ed_var (pv 3)) ed_int) ed_int) (ad_cons (ed_mod (ed_div (ed_var (pv 3)) ed_int) ed_int) ad_nil))))))))
  (sds_cons (sd_sub (ps_asg (ED.pe (ed_lstM (ad_cons (ed_var (pv 8)) (ad_cons (ed_lstM ad_nil) (ad_cons (ed_lstM ad_nil) ad_nil))))) (pg_sub (ED.pe (ed_ix hr (ed_var (pv 1)) ed_str (fun _ _ => rfl))) (ED.pe (ed_var (pv 4))) (PSet.or set_list (set_dict (hu1 hr))))))
  (sds_one (sd_ret (ed_meth (ok_Store_begin_page Y) rfl hr (by decide) dd0 (ed_var (pv 0)) (ad_cons (ed_ix hr (ed_var (pv 8)) ed_int (fun _ _ => rfl)) (ad_cons (ed_ix hr (ed_var (pv 8)) ed_int (fun _ _ => rfl)) (ad_cons (ed_ix hr (ed_var (pv 8)) ed_int (fun _ _ => rfl)) (ad_cons (ed_ix hr (ed_var (pv 8)) ed_int (fun _ _ => rfl)) ad_nil))))))))) sds_nil)
  (sds_cons (sd_if (td_eq hr (ed_var (pv 6)) ed_int) (sds_cons (sd_sub (ps_asg (ED.pe (ed_var (pv 4))) (pg_sub (ED.pe (ed_ix hr (ed_var (pv 1)) ed_str (fun _ _ => rfl))) (ED.pe ed_int) (PSet.or set_list (set_dict (hu1 hr))))))
  (sds_one (sd_ret (ed_meth0 (ok_Store_turn Y) rfl hr (by decide) dd0 (ed_var (pv 0)))))) sds_nil)
  (sds_cons (sd_sub (ps_asg (ED.pe (ed_var (pv 3))) (pg_sub (ED.pe (ed_ix hr (ed_var (pv 1)) ed_str (fun _ _ => rfl))) (ED.pe ed_int) (PSet.or set_list (set_dict (hu1 hr))))))
  (sds_one (sd_ret (ed_meth (ok_Store_give Y) rfl hr (by decide) dd0 (ed_var (pv 0)) (ad_cons (ed_var (pv 3)) ad_nil)))))))))))))
theorem ok_law_deed (Y : Fx K mg) : FnC P w K mg base "_law_deed" 4 ["_law_store", "_law_model_here", "_law_cell_here"] [] F_law_deed := by
  obtain ⟨fd, FD⟩ := Y.c.def_ 21 (d := d_law_deed) rfl
  exact FnC.of FD (Y.glo 7) (ok_law_deed_fn FD Y) fun _ _ _ _ _ _ us hl => match us, hl with | [_, _, _], _ => rfl
theorem sc_law : FnScope ["_law_script", "_law_stores", "_law_k", "_law_cell_here", "_law_program_here", "_law_begin", "_law_store", "_law_model_here", "_law_j"] ["_law_script"] (defScope s_law) := ⟨rfl, rfl, rfl, by decide +kernel, rfl, by decide +kernel, by decide +kernel⟩
theorem ok_law_fn {f : Addr} {fd : FuncData} (FD : FunD K d_law.name d_law.qual d_law.params d_law.body d_law.scope (He.DefD.dvs K d_law) (He.DefD.kws K d_law) f fd) (Y : Fx K mg) : FnOk P w K mg base CX0 9 f fd ["_law_script"] (spS K 1 F_law) := by
  refine fn_ok FD sc_law fun cdv A outer s H E hr => ?_
  exact (sds_cons (sd_set (ps_set (i := 1) sc_law.nd rfl (by first | exact .inl rfl | exact .inr rfl) (ED.pe (ed_lstM ad_nil))))
  (sds_cons (sd_for (ps_for PassesOwn.never rfl (Dn.ID.pi (id_range1 (ad_cons ed_int ad_nil) (fun ha => pi_range1 (by rfl) Y.tb.range ha))) (GD.pg (gd_name (pg_name (i := 2) sc_law.nd rfl (by first | exact .inl rfl | exact .inr rfl)))) (SDs.ps (sds_cons (sd_set (ps_set (i := 4) sc_law.nd rfl (by first | exact .inl rfl | exact .inr rfl) (ED.pe (ed_callP (ok_law_program Y) rfl hr (by decide) (by rfl) dd0 (ad_cons (ed_callP (ok_law_cell Y) rfl hr (by decide) (by rfl) dd0 (ad_cons (ed_var (pv 0)) (ad_cons (ed_mul ed_int (ed_var (pv 2))) ad_nil))) (ad_cons (ed_callP (ok_law_cell Y) rfl hr (by decide) (by rfl) dd0 (ad_cons (ed_var (pv 0)) (ad_cons (ed_add (ed_mul ed_int (ed_var (pv 2))) ed_int) ad_nil))) ad_nil))))))
  (sds_cons (sd_set (ps_set (i := 3) sc_law.nd rfl (by first | exact .inl rfl | exact .inr rfl) (ED.pe (ed_callP (ok_law_cell Y) rfl hr (by decide) (by rfl) dd0 (ad_cons (ed_var (pv 0)) (ad_cons (ed_add ed_int (ed_var (pv 2))) ad_nil))))))
  (sds_cons (sd_set (ps_set (i := 5) sc_law.nd rfl (by first | exact .inl rfl | exact .inr rfl) (ED.pe (ed_prim (fun ha => pe_callTy (x := "tuple") call_tupAll (by rfl) Y.tb.tuple boot_tuple ha) ok_tuple (ad_cons (ed_prim (fun ha => pe_callB (x := "sorted") (call_sortedAll rfl) (by rfl) Y.tb.sorted boot_sorted ha) ok_sorted (ad_cons (ed_lc (pe_lc (own := [("_law_j", 8)]) rfl sc_law.nd (Dn.ID.pi (id_range1 (ad_cons (ed_callP (ok_law_part Y) rfl hr (by decide) (by rfl) dd0 (ad_cons (ed_var (pv 3)) (ad_cons ed_int (ad_cons ed_int ad_nil)))) ad_nil) (fun ha => pi_range1 (by rfl) Y.tb.range ha))) (blkOk_by (by rfl)) (fun _ _ _ _ _ => (pg_name (i := 8) sc_law.nd rfl (by first | exact .inl rfl | exact .inr rfl))) (fun _ _ _ _ _ => pts_nil) (fun _ _ _ _ _ => (ED.pe (ed_callP (ok_law_name Y) rfl hr (by decide) (by rfl) dd0 (ad_cons (ed_var (pv 3)) (ad_cons (ed_var (pv 8)) ad_nil)))))) (gw_name (by decide)) yes_of) ad_nil)) ad_nil)))))
  (sds_cons (sd_set (ps_set (i := 6) sc_law.nd rfl (by first | exact .inl rfl | exact .inr rfl) (ED.pe (ed_make (ok_Store_init Y) rfl hr (by decide) (by rfl) dd0 (ad_cons (ed_var (pv 4)) (ad_cons (ed_var (pv 5)) ad_nil))))))
  (sds_cons (sd_set (ps_set (i := 7) sc_law.nd rfl (by first | exact .inl rfl | exact .inr rfl) (ED.pe (ed_callS (ok_law_model Y) rfl hr (by decide) (by rfl) dd0 (ad_cons (ed_var (pv 4)) (ad_cons (ed_var (pv 5)) ad_nil))))))
  (sds_cons (sd_if (td_not (td_val (ed_callS (ok_law_told Y) rfl hr (by decide) (by rfl) dd0 (ad_cons (ed_var (pv 6)) (ad_cons (ed_var (pv 4)) (ad_cons (ed_var (pv 7)) ad_nil)))))) (sds_one (sd_ret ed_bl)) sds_nil)
  (sds_one (sd_expr (ed_mt ok_append (ed_var (pv 1)) (ad_cons (ed_lst (ad_cons (ed_var (pv 6)) (ad_cons (ed_var (pv 4)) (ad_cons (ed_var (pv 7)) ad_nil)))) ad_nil) (fun ho ha => pe_bm PySem.F.plainAttrs_list PySem.F.slot_list_append PySem.F.type_list_append mt_append ho ha)))))))))))))
  (sds_cons (sd_for (ps_for PassesOwn.never rfl (Dn.ID.pi (id_seq (ed_sl (ed_var (pv 0)) (od_some ed_int) (od_some ed_int)))) (GD.pg (gd_name (pg_name (i := 3) sc_law.nd rfl (by first | exact .inl rfl | exact .inr rfl)))) (SDs.ps (sds_cons (sd_asg (ps_asg (ED.pe (ed_ix hr (ed_var (pv 1)) (ed_callP (ok_law_part Y) rfl hr (by decide) (by rfl) dd0 (ad_cons (ed_var (pv 3)) (ad_cons ed_int (ad_cons ed_int ad_nil)))) (fun _ _ => rfl))) (GD.pg (gd_l rfl (gds_c (gd_name (pg_name (i := 6) sc_law.nd rfl (by first | exact .inl rfl | exact .inr rfl))) (gds_c (gd_name (pg_name (i := 4) sc_law.nd rfl (by first | exact .inl rfl | exact .inr rfl))) (gds_c (gd_name (pg_name (i := 7) sc_law.nd rfl (by first | exact .inl rfl | exact .inr rfl))) gds_nil)))))))
  (sds_one (sd_if (TDW.td (tw_or (td_isnot (ed_callS (ok_law_deed Y) rfl hr (by decide) (by rfl) dd0 (ad_cons (ed_var (pv 6)) (ad_cons (ed_var (pv 7)) (ad_cons (ed_var (pv 3)) ad_nil)))) ed_non) (tw_or1 (td_not (td_val (ed_callS (ok_law_told Y) rfl hr (by decide) (by rfl) dd0 (ad_cons (ed_var (pv 6)) (ad_cons (ed_var (pv 4)) (ad_cons (ed_var (pv 7)) ad_nil))))))))) (sds_one (sd_ret ed_bl)) sds_nil))))))
  (sds_cons (sd_forV _ (ps_for PassesOwn.never rfl (pi_list (ED.pe (ed_var (pv 1)))) (GD.pg (gd_l rfl (gds_c (gd_name (pg_name (i := 6) sc_law.nd rfl (by first | exact .inl rfl | exact .inr rfl))) (gds_c (gd_name (pg_name (i := 4) sc_law.nd rfl (by first | exact .inl rfl | exact .inr rfl))) (gds_c (gd_name (pg_name (i := 7) sc_law.nd rfl (by first | exact .inl rfl | exact .inr rfl))) gds_nil))))) (SDs.ps (sds_one (sd_if (td_not (td_val (ed_callS (ok_law_told Y) rfl hr (by decide) (by rfl) dd0 (ad_cons (ed_var (pv 6)) (ad_cons (ed_var (pv 4)) (ad_cons (ed_var (pv 7)) ad_nil)))))) (sds_one (sd_ret ed_bl)) sds_nil)))))
  (sds_one (sd_ret ed_bl))))))
end
end Lk61

namespace Lk61
open PySem PySem.Spec PyProof.Rows L2 Dn
section
variable {Z : Hst} {S S0 : Sto} {L : HL} {h : Hs} {ρ : List (Option DV)}
/-! ### pages -/
def HL.pL (L : HL) (b : Bool) : Nat := if b = true then L.p1 else L.p0
def HL.hL (L : HL) (b : Bool) : Nat := if b = true then L.h1 else L.h0
def HL.tL (L : HL) (b : Bool) : Nat := if b = true then L.t1 else L.t0
/-! ### coming up -/
/-! ### writing down -/
theorem mk_page {fa : DA} {p : Pg} (h1 : p.held = []) (h2 : p.turned = []) {ρ : List (Option DV)} {S S1 : Sto} (ha : fa ρ S = some ([.int p.row, .int p.done, .int p.hears, .int p.says], S1)) : dMake "Page" F_Page_init [] fa ρ S = some (.loc S1.length, S1 ++ pgCells p S1.length) := by
  let ρ0 : List (Option DV) := [some (.loc S1.length), some (.int p.row), some (.int p.done), some (.int p.hears), some (.int p.says)]
  have gl : ∀ (c : Cell) (T : Sto), (S1 ++ c :: T)[S1.length]? = some c := fun c T => by
    rw [List.getElem?_append_right (Nat.le_refl _), Nat.sub_self] <;> rfl
  have st : ∀ (c c' : Cell) (T : Sto), (S1 ++ c :: T).set S1.length c' = S1 ++ c' :: T := fun c c' T => by
    rw [List.set_append_right _ _ (Nat.le_refl _), Nat.sub_self]
    rfl
  have e1 : dSetF AT "head" (dPrim pTup (aCons (dVar 1) (aCons (dVar 2) (aCons (dVar 3) (aCons (dVar 4) aNil))))) (dVar 0) ρ0 (S1 ++ [.ins "Page" []]) = some (.nx ρ0 (S1 ++ [.ins "Page" [("head", headD p)]])) := by
    rw [setF_at (C := "Page") (fs := []) (n := S1.length) (y := headD p) rfl rfl (gl _ _) rfl (show (0 : Nat) < 1000 by decide), st]
    rfl
  have e2 : dSetF AT "held" (dPrim pLstM aNil) (dVar 0) ρ0 (S1 ++ [.ins "Page" [("head", headD p)]]) = some (.nx ρ0 (S1 ++ [.ins "Page" [("head", headD p), ("held", .loc (S1.length + 1))], .lst []])) := by
    have v : dPrim pLstM aNil ρ0 (S1 ++ [.ins "Page" [("head", headD p)]]) = some (.loc (S1.length + 1), S1 ++ [.ins "Page" [("head", headD p)], .lst []]) := by
      have : dPrim pLstM aNil ρ0 (S1 ++ [.ins "Page" [("head", headD p)]]) = some (.loc (S1 ++ [Cell.ins "Page" [("head", headD p)]]).length, (S1 ++ [Cell.ins "Page" [("head", headD p)]]) ++ [.lst []]) := rfl
      rw [this, List.length_append, List.append_assoc]
      rfl
    rw [setF_at (C := "Page") (fs := [("head", headD p)]) (n := S1.length) v rfl (gl _ _) rfl (show (1 : Nat) < 1000 by decide), st]
    rfl
  have e3 : dSetF AT "turned" (dPrim pLstM aNil) (dVar 0) ρ0 (S1 ++ [.ins "Page" [("head", headD p), ("held", .loc (S1.length + 1))], .lst []]) = some (.nx ρ0 (S1 ++ pgCells p S1.length)) := by
    have v : dPrim pLstM aNil ρ0 (S1 ++ [.ins "Page" [("head", headD p), ("held", .loc (S1.length + 1))], .lst []]) = some (.loc (S1.length + 2), S1 ++ [.ins "Page" [("head", headD p), ("held", .loc (S1.length + 1))], .lst [], .lst []]) := by
      have : dPrim pLstM aNil ρ0 (S1 ++ [.ins "Page" [("head", headD p), ("held", .loc (S1.length + 1))], .lst []]) = some (.loc (S1 ++ [Cell.ins "Page" [("head", headD p), ("held", .loc (S1.length + 1))], .lst []]).length, (S1 ++ [Cell.ins "Page" [("head", headD p), ("held", .loc (S1.length + 1))], .lst []]) ++ [.lst []]) := rfl
      rw [this, List.length_append, List.append_assoc]
      rfl
    rw [setF_at (C := "Page") (fs := [("head", headD p), ("held", .loc (S1.length + 1))]) (n := S1.length) v rfl (gl _ _) rfl (show (2 : Nat) < 1000 by decide), st]
    rfl
  unfold dMake
  simp only [ha]
  show (match F_Page_init (.loc S1.length :: ([.int p.row, .int p.done, .int p.hears, .int p.says] ++ [])) (S1 ++ [.ins "Page" []]) with | some (.non, S2) => some (DV.loc S1.length, S2) | _ => none) = _
  rw [show F_Page_init (.loc S1.length :: ([.int p.row, .int p.done, .int p.hears, .int p.says] ++ [])) (S1 ++ [.ins "Page" []]) = some (.non, S1 ++ pgCells p S1.length) from run_nx rfl ((seq_nx e1).trans ((seq_nx e2).trans e3))]
theorem app_at {f e : DE} {n : Nat} {xs : List DV} {y : DV} {ρ : List (Option DV)} {S : Sto} (hf : f ρ S = some (.loc n, S)) (hn : S[n]? = some (.lst xs)) (he : e ρ S = some (y, S)) (hz : xs.length < 16777216) : dExpr (dMt pAppend f (aCons e aNil)) ρ S = some (.nx ρ (S.set n (.lst (xs ++ [y])))) := append_of hf hn he hz
/-! ### a step -/
end
end Lk61

namespace Lk61
open PySem PySem.Spec PyProof.Rows L2 Dn
/-! ### the house made -/
theorem thD_plain (l : List Thing) : plainL (l.map thD) = true := plainL_iff.mpr fun d h => by
  obtain ⟨c, _, rfl⟩ := List.mem_map.mp h
  rfl
theorem PD_plain (Z : Hst) : plain Z.PD = true := by
  have h1 : plain (.tup (Z.cells.map thD)) = true := by show plainL _ = true; exact thD_plain _
  have h2 : plain (.tup (Z.shelves.map thD)) = true := by show plainL _ = true; exact thD_plain _
  have h3 : plain (.tup (Z.rows.map PRow.d)) = true := by
    show plainL _ = true
    exact plainL_iff.mpr fun d h => by
      obtain ⟨r, _, rfl⟩ := List.mem_map.mp h
      exact PRow.plain_d
  show plainL [DV.tup (Z.cells.map thD), .tup (Z.shelves.map thD), .tup (Z.rows.map PRow.d)] = true
  rw [plainL_cons, plainL_cons, plainL_cons, h1, h2, h3]
  rfl
/-! a dict filled in a loop -/
end Lk61

namespace Lk61
open PySem PySem.Spec PyProof.Rows L2 Dn
section
variable {S : Sto} {l : Cs} {k a : Nat} {C f : Str} {fs : List (Str × DV)} {d : DV} {v o : DE} {ρ : List (Option DV)}
theorem fldV (A : AtS S l) (k : Nat) (hk : l[k]? = some (a, .ins C fs)) (hv : v ρ S = some (d, S)) (ho : o ρ S = some (.loc a, S)) (hT : AT.contains (C, f) = true) (hlen : fs.length < 1000) : ∃ S', dSetF AT f v o ρ S = some (.nx ρ S') ∧ Stp S l S' (l.set k (a, .ins C (putFD f d fs))) :=
  ⟨_, setF_at hv ho (A.at k hk) hT hlen, Stp.set A k _ hk⟩
theorem fldC (A : AtS S l) (k : Nat) (c : Cell) (hk : l[k]? = some (a, .ins C fs)) (hv : v ρ S = some (.loc S.length, S ++ [c])) (ho : o ρ (S ++ [c]) = some (.loc a, S ++ [c])) (hT : AT.contains (C, f) = true) (hlen : fs.length < 1000) (hc : notLok c = true := by rfl) :
    ∃ S', dSetF AT f v o ρ S = some (.nx ρ S') ∧ Stp S l S' ((l ++ [(S.length, c)]).set k (a, .ins C (putFD f (.loc S.length) fs))) := by
  have T1 := Stp.more A c hc
  have hk2 : (l ++ [(S.length, c)])[k]? = some (a, .ins C fs) := by
    rw [List.getElem?_append_left (List.getElem?_eq_some_iff.mp hk).1]
    exact hk
  exact ⟨_, setF_at hv ho (T1.at_.at k hk2) hT hlen, T1.trans (Stp.set T1.at_ k _ hk2)⟩
end
theorem put_loopP {α β : Type} {g : DG} {body : DS} {D : β → DV} {f : α → DV} {kx : β → Pl} {vx : β → α} {n : Nat} {I : List (Option DV) → Prop} {J : Sto → Prop} (hJ : ∀ S c, J S → J (S.set n c)) (m : Nat) :
    ∀ (l : List β) (acc : List (Pl × α)) (ρ : List (Option DV)) (S : Sto), I ρ → J S → S[n]? = some (dkP f acc) → acc.length + l.length ≤ m →
    (∀ b ∈ l, ∀ (acc : List (Pl × α)) ρ S, I ρ → J S → S[n]? = some (dkP f acc) → acc.length < m → ∃ ρ1 ρ2, g (D b) ρ S = some (ρ1, S) ∧ body ρ1 S = some (.nx ρ2 (S.set n (dkP f (apt acc (kx b) (vx b))))) ∧ I ρ2) →
    ∃ ρ', forL g body (l.map D) ρ S = some (.nx ρ' (S.set n (dkP f (l.foldl (fun a b => apt a (kx b) (vx b)) acc)))) ∧ I ρ'
  | [], acc, ρ, S, hI, _, hS, _, _ => ⟨ρ, by
      obtain ⟨h1, h2⟩ := List.getElem?_eq_some_iff.mp hS
      have : S.set n (dkP f acc) = S := by rw [← h2, List.set_getElem_self]
      show some (Out.nx ρ S) = some (Out.nx ρ (S.set n (dkP f acc)))
      rw [this], hI⟩
  | b :: l, acc, ρ, S, hI, hj, hS, hz, hs => by
    rw [List.length_cons] at hz
    obtain ⟨ρ1, ρ2, e1, e2, h2⟩ := hs b List.mem_cons_self acc ρ S hI hj hS (by omega)
    have al := apt_len (l := acc) (k := kx b) (v := vx b)
    have hl := (List.getElem?_eq_some_iff.mp hS).1
    obtain ⟨ρ', e3, h3⟩ := put_loopP (g := g) (body := body) (D := D) (f := f) (kx := kx) (vx := vx) (n := n) (I := I) hJ m l (apt acc (kx b) (vx b)) ρ2 _ h2 (hJ _ _ hj) (List.getElem?_set_self hl) (by omega) fun b hb => hs b (List.mem_cons_of_mem _ hb)
    refine ⟨ρ', ?_, h3⟩
    rw [List.map_cons]
    conv => lhs; unfold forL
    simp only [e1, e2]
    rw [e3, List.set_set]
    rfl
abbrev stE (a : Nat) (P B x3 x4 x5 x6 x7 : Option DV) : List (Option DV) := [some (.loc a), P, B, x3, x4, x5, x6, x7]
abbrev stG : DG := gTupD 3 (gsCons (gSet 3) (gsCons (gSet 6) (gsCons (gSet 5) gsNil)))
abbrev stI : DS := dFor (iRange1 (aCons (dVar 6) aNil)) (gSet 7) (dSub (dC (.int 0)) (dFld AT "home" (dVar 0)) (dPrim pTup (aCons (dVar 3) (aCons (dVar 7) aNil))))
abbrev stB : DS := dSeq (dSub (dVar 6) (dFld AT "sizes" (dVar 0)) (dVar 3)) stI
theorem shelf_len (c : Thing) (acc : List (Pl × Int)) : (shelfL acc c).length ≤ acc.length + c.2.1.toNat := by
  have key : ∀ (l : List Nat) (acc : List (Pl × Int)), (l.foldl (fun l k => apt l (c.1, k) 0) acc).length ≤ acc.length + l.length := fun l => by
    induction l with
    | nil => intro acc; exact Nat.le_refl _
    | cons x l ih =>
      intro acc
      have := ih (apt acc (c.1, x) 0)
      have := apt_len (l := acc) (k := (c.1, x)) (v := (0 : Int))
      rw [List.foldl_cons, List.length_cons]
      omega
  have := key (List.range c.2.1.toNat) acc
  rw [List.length_range] at this
  exact this
/-- the shelves: their sizes, their places -/
theorem st_shelves {a hm sz : Nat} {P B : Option DV} {fs : List (Str × DV)} (hf1 : fs.lookup ("home" : Str) = some (.loc hm)) (hf2 : fs.lookup ("sizes" : Str) = some (.loc sz)) (ne1 : a ≠ hm) (ne2 : a ≠ sz) (ne3 : hm ≠ sz) :
    ∀ (l : List Thing) (H : List (Pl × Int)) (Zl : List (Str × Int)) (S : Sto) (x3 x4 x5 x6 x7 : Option DV), (∀ c ∈ l, 0 ≤ c.2.1 ∧ c.2.1 ≤ 1000) → H.length + 1000 * l.length ≤ 5000000 → Zl.length + l.length ≤ 5000 →
    S[a]? = some (.ins "Store" fs) → S[hm]? = some (dkP intD H) → S[sz]? = some (dkS intD Zl) →
    ∃ y3 y4 y5 y6 y7, forL stG stB (l.map thD) (stE a P B x3 x4 x5 x6 x7) S = some (.nx (stE a P B y3 y4 y5 y6 y7) ((S.set sz (dkS intD (l.foldl (fun l c => apt l c.1 c.2.1) Zl))).set hm (dkP intD (l.foldl shelfL H))))
  | [], H, Zl, S, x3, x4, x5, x6, x7, _, _, _, hS, hH, hZ => ⟨x3, x4, x5, x6, x7, by
      have e1 : S.set sz (dkS intD Zl) = S := by
        obtain ⟨h1, h2⟩ := List.getElem?_eq_some_iff.mp hZ
        rw [← h2, List.set_getElem_self]
      have e2 : S.set hm (dkP intD H) = S := by
        obtain ⟨h1, h2⟩ := List.getElem?_eq_some_iff.mp hH
        rw [← h2, List.set_getElem_self]
      show some (Out.nx _ S) = some (Out.nx _ ((S.set sz (dkS intD Zl)).set hm (dkP intD H)))
      rw [e1, e2]⟩
  | c :: l, H, Zl, S, x3, x4, x5, x6, x7, hn, hz1, hz2, hS, hH, hZ => by
    rw [List.length_cons] at hz1 hz2
    obtain ⟨n0, n1⟩ := hn c List.mem_cons_self
    have hlz := (List.getElem?_eq_some_iff.mp hZ).1
    have hlh := (List.getElem?_eq_some_iff.mp hH).1
    let E (x7 : Option DV) := stE a P B (some (.str c.1)) x4 (some (.bl c.2.2)) (some (.int c.2.1)) x7
    have al := apt_len (l := Zl) (k := c.1) (v := c.2.1)
    let S1 := S.set sz (dkS intD (apt Zl c.1 c.2.1))
    have s1 : dSub (dVar 6) (dFld AT "sizes" (dVar 0)) (dVar 3) (E x7) S = some (.nx (E x7) S1) := sub_of (x := .loc sz) (k := .str c.1) (y := .int c.2.1) rfl (fld_at rfl hS rfl hf2) rfl (setI_S (f := intD) (v := c.2.1) hZ (by omega))
    have hS1 : S1[a]? = some (.ins "Store" fs) := by
      show (S.set sz _)[a]? = _
      rw [List.getElem?_set_ne (Ne.symm ne2)]
      exact hS
    have hH1 : S1[hm]? = some (dkP intD H) := by
      show (S.set sz _)[hm]? = _
      rw [List.getElem?_set_ne (Ne.symm ne3)]
      exact hH
    have hr : iRange1 (aCons (dVar 6) aNil) (E x7) S1 = some ((List.range c.2.1.toNat).map fun (i : Nat) => DV.int i, S1) := by
      refine rgN_of (n := c.2.1.toNat) ?_ (by omega)
      rw [Int.toNat_of_nonneg n0]
      rfl
    obtain ⟨ρ', e2, y7, rfl⟩ := put_loopP (g := gSet 7) (body := dSub (dC (.int 0)) (dFld AT "home" (dVar 0)) (dPrim pTup (aCons (dVar 3) (aCons (dVar 7) aNil)))) (D := fun (i : Nat) => DV.int i) (f := intD) (kx := fun i => (c.1, i)) (vx := fun _ => (0 : Int)) (n := hm) (I := fun ρ => ∃ x7, ρ = E x7) (J := fun S => S[a]? = some (.ins "Store" fs)) (fun S c h => by rw [List.getElem?_set_ne (Ne.symm ne1)]; exact h) 6000000 (List.range c.2.1.toNat) H (E x7) S1 ⟨x7, rfl⟩ hS1 hH1 (by rw [List.length_range]; omega) fun i hi acc ρ S2 hI hJ hA hz => by
      obtain ⟨x7, rfl⟩ := hI
      exact ⟨_, _, rfl, sub_of (x := .loc hm) (k := plD (c.1, i)) (y := .int 0) rfl (fld_at rfl hJ rfl hf1) rfl (setI_P (f := intD) (v := (0 : Int)) hA (by omega)), _, rfl⟩
    let S2 := S1.set hm (dkP intD (shelfL H c))
    have hS2 : S2[a]? = some (.ins "Store" fs) := by
      show (S1.set hm _)[a]? = _
      rw [List.getElem?_set_ne (Ne.symm ne1)]
      exact hS1
    have hH2 : S2[hm]? = some (dkP intD (shelfL H c)) := List.getElem?_set_self (by show hm < (S.set sz _).length; rw [List.length_set]; exact hlh)
    have hZ2 : S2[sz]? = some (dkS intD (apt Zl c.1 c.2.1)) := by
      show (S1.set hm _)[sz]? = _
      rw [List.getElem?_set_ne ne3]
      exact List.getElem?_set_self hlz
    have sl := shelf_len c H
    obtain ⟨z3, z4, z5, z6, z7, e3⟩ := st_shelves (P := P) (B := B) hf1 hf2 ne1 ne2 ne3 l (shelfL H c) (apt Zl c.1 c.2.1) S2 (some (.str c.1)) x4 (some (.bl c.2.2)) (some (.int c.2.1)) y7 (fun d hd => hn d (List.mem_cons_of_mem _ hd)) (by omega) (by omega) hS2 hH2 hZ2
    refine ⟨z3, z4, z5, z6, z7, ?_⟩
    rw [List.map_cons]
    conv => lhs; unfold forL
    rw [show stG (thD c) (stE a P B x3 x4 x5 x6 x7) S = some (E x7, S) from rfl]
    simp only
    rw [show stB (E x7) S = some (.nx (E y7) S2) from (seq_nx s1).trans (for_of hr e2)]
    simp only
    rw [e3]
    have : (S2.set sz (dkS intD (l.foldl (fun l c => apt l c.1 c.2.1) (apt Zl c.1 c.2.1)))).set hm (dkP intD (l.foldl shelfL (shelfL H c))) = (S.set sz (dkS intD ((c :: l).foldl (fun l c => apt l c.1 c.2.1) Zl))).set hm (dkP intD ((c :: l).foldl shelfL H)) := by
      show ((((S.set sz _).set hm _).set sz _).set hm _) = _
      rw [List.set_comm _ _ ne3, List.set_set, List.set_set]
      rfl
    rw [this]
end Lk61

namespace Lk61
open PySem PySem.Spec PyProof.Rows L2 Dn
theorem atS_nil {S : Sto} : AtS S [] := ⟨List.nodup_nil, fun p hp => by cases hp⟩
theorem store_made (Z : Hst) (ZZ : Z.Zs) (bz : Z.beg.length ≤ 1000) (S : Sto) : ∃ S' hm sz p0 h0 t0 p1 h1 t1 pg, F_Store_init [.loc S.length, Z.PD, bxD Z.beg] (S ++ [.ins "Store" []]) = some (.non, S') ∧
    Stp S [] S' [(S.length, .ins "Store" [("home", .loc hm), ("sizes", .loc sz), ("pages", .loc pg), ("front", .int 0), ("final", .non)]), (hm, dkP intD Z.homeL), (sz, dkS intD Z.szL), (p0, .ins "Page" (pgF (pg0 Z.beg) h0 t0)), (h0, .lst ((pg0 Z.beg).held.map bvD)), (t0, .lst []), (p1, .ins "Page" (pgF (pg0 []) h1 t1)), (h1, .lst []), (t1, .lst []), (pg, .lst [.loc p0, .loc p1])] := by
  let a := S.length
  let P : Option DV := some Z.PD
  let B : Option DV := some (bxD Z.beg)
  have zc := ZZ.c
  have zs := ZZ.s
  have T0 : Stp S [] (S ++ [.ins "Store" []]) [(a, .ins "Store" [])] := Stp.more atS_nil (.ins "Store" [])
  generalize hS0 : S ++ [Cell.ins "Store" []] = S0 at T0
  obtain ⟨S1, e1, t1⟩ := fldC (f := "home") (v := fun _ S => some (.loc S.length, S ++ [.dit [] []])) (o := dVar 0) (ρ := stE a P B none none none none none) T0.at_ 0 (dkP intD []) rfl rfl rfl rfl (show (0 : Nat) < 1000 by decide)
  generalize S0.length = hm at t1
  have T1 : Stp S [] S1 [(a, .ins "Store" [("home", .loc hm)]), (hm, dkP intD [])] := (T0.trans t1).of_eq rfl
  obtain ⟨S2, e2, t2⟩ := fldC (f := "sizes") (v := fun _ S => some (.loc S.length, S ++ [.dik [] []])) (o := dVar 0) (ρ := stE a P B none none none none none) T1.at_ 0 (dkS intD []) rfl rfl rfl rfl (show (1 : Nat) < 1000 by decide)
  generalize S1.length = sz at t2
  let fs : List (Str × DV) := [("home", .loc hm), ("sizes", .loc sz)]
  have T2 : Stp S [] S2 [(a, .ins "Store" fs), (hm, dkP intD []), (sz, dkS intD [])] := (T1.trans t2).of_eq rfl
  have A2 := T2.at_
  have n01 : a ≠ hm := A2.ne 0 1
  have n02 : a ≠ sz := A2.ne 0 2
  have n12 : hm ≠ sz := A2.ne 1 2
  -- the cells
  obtain ⟨ρ3, e3, x3, x4, x5, rfl⟩ := put_loopP (g := gTupD 3 (gsCons (gSet 3) (gsCons (gSet 4) (gsCons (gSet 5) gsNil)))) (body := dSub (dVar 4) (dFld AT "home" (dVar 0)) (dPrim pTup (aCons (dVar 3) (aCons (dC (.int 0)) aNil)))) (D := thD) (f := intD) (kx := fun c : Thing => ((c.1, 0) : Pl)) (vx := fun c : Thing => c.2.1) (n := hm) (I := fun ρ => ∃ x3 x4 x5, ρ = stE a P B x3 x4 x5 none none) (J := fun S => S[a]? = some (.ins "Store" fs)) (fun S c h => by rw [List.getElem?_set_ne (Ne.symm n01)]; exact h) 6000000 Z.cells [] (stE a P B none none none none none) S2 ⟨none, none, none, rfl⟩ (A2.at 0) (A2.at 1) (by rw [List.length_nil]; omega) fun c hc acc ρ S3 hI hJ hA hz => by
    obtain ⟨x3, x4, x5, rfl⟩ := hI
    exact ⟨_, _, rfl, sub_of (x := .loc hm) (k := plD (c.1, 0)) (y := .int c.2.1) rfl (fld_at rfl hJ rfl rfl) rfl (setI_P (f := intD) (v := c.2.1) hA (by omega)), _, _, _, rfl⟩
  let H1 : List (Pl × Int) := Z.cells.foldl (fun l c => apt l (c.1, 0) c.2.1) []
  have t3 := Stp.set A2 1 (dkP intD H1)
  have T3 : Stp S [] (S2.set hm (dkP intD H1)) [(a, .ins "Store" fs), (hm, dkP intD H1), (sz, dkS intD [])] := (T2.trans t3).of_eq rfl
  have hH1 : H1.length ≤ 1000 := by
    have key : ∀ (cs : List Thing) (acc : List (Pl × Int)), (cs.foldl (fun l c => apt l (c.1, 0) c.2.1) acc).length ≤ acc.length + cs.length := fun cs => by
      induction cs with
      | nil => intro acc; exact Nat.le_refl _
      | cons c cs ih =>
        intro acc
        have := ih (apt acc (c.1, 0) c.2.1)
        have := apt_len (l := acc) (k := (c.1, 0)) (v := c.2.1)
        rw [List.foldl_cons, List.length_cons]
        omega
    exact Nat.le_trans (key Z.cells []) (by rw [List.length_nil]; omega)
  -- the shelves
  have A3 := T3.at_
  obtain ⟨y3, y4, y5, y6, y7, e4⟩ := st_shelves (P := P) (B := B) (fs := fs) (a := a) (hm := hm) (sz := sz) rfl rfl n01 n02 n12 Z.shelves H1 [] (S2.set hm (dkP intD H1)) x3 x4 x5 none none ZZ.n (by omega) (by rw [List.length_nil]; omega) (A3.at 0) (A3.at 1) (A3.at 2)
  have t4 := Stp.set A3 2 (dkS intD Z.szL)
  have t5 := Stp.set t4.at_ 1 (a := hm) (c := dkP intD H1) (dkP intD Z.homeL)
  generalize hS5 : ((S2.set hm (dkP intD H1)).set sz (dkS intD Z.szL)).set hm (dkP intD Z.homeL) = S5 at t5
  have T5 : Stp S [] S5 [(a, .ins "Store" fs), (hm, dkP intD Z.homeL), (sz, dkS intD Z.szL)] := ((T3.trans t4).trans t5).of_eq rfl
  have e4 : forL stG stB (Z.shelves.map thD) (stE a P B x3 x4 x5 none none) (S2.set hm (dkP intD H1)) = some (.nx (stE a P B y3 y4 y5 y6 y7) S5) := by
    rw [← hS5]
    exact e4
  -- the pages
  let p : Pg := ⟨0, 0, 0, 0, [], []⟩
  let ρ6 := stE a P B y3 y4 y5 y6 y7
  let n := S5.length
  let C7 : List Cell := pgCells p n ++ (pgCells p (n + 3) ++ [.lst [.loc n, .loc (n + 3)]])
  have A5 := T5.at_
  have u1 := Stp.more A5 (.ins "Page" (pgF p (n + 1) (n + 2)))
  have u2 := Stp.more u1.at_ (.lst [])
  have u3 := Stp.more u2.at_ (.lst [])
  have u4 := Stp.more u3.at_ (.ins "Page" (pgF p (n + 4) (n + 5)))
  have u5 := Stp.more u4.at_ (.lst [])
  have u6 := Stp.more u5.at_ (.lst [])
  have u7 := Stp.more u6.at_ (.lst [.loc n, .loc (n + 3)])
  have u := (((((u1.trans u2).trans u3).trans u4).trans u5).trans u6).trans u7
  simp only [List.length_append, List.length_singleton, List.append_assoc, List.cons_append, List.nil_append] at u
  have T7 : Stp S [] (S5 ++ C7) [(a, .ins "Store" fs), (hm, dkP intD Z.homeL), (sz, dkS intD Z.szL), (n, .ins "Page" (pgF p (n + 1) (n + 2))), (n + 1, .lst []), (n + 2, .lst []), (n + 3, .ins "Page" (pgF p (n + 4) (n + 5))), (n + 4, .lst []), (n + 5, .lst []), (n + 6, .lst [.loc n, .loc (n + 3)])] := T5.trans u
  have mkE : ∀ {ρ : List (Option DV)} {S : Sto}, (aCons (dC (.int 0)) (aCons (dC (.int 0)) (aCons (dC (.int 0)) (aCons (dC (.int 0)) aNil)))) ρ S = some ([.int p.row, .int p.done, .int p.hears, .int p.says], S) := fun {ρ S} => rfl
  have m1 : dMake "Page" F_Page_init [] (aCons (dC (.int 0)) (aCons (dC (.int 0)) (aCons (dC (.int 0)) (aCons (dC (.int 0)) aNil)))) ρ6 S5 = some (.loc n, S5 ++ pgCells p n) := mk_page (p := p) rfl rfl mkE
  have m2 : dMake "Page" F_Page_init [] (aCons (dC (.int 0)) (aCons (dC (.int 0)) (aCons (dC (.int 0)) (aCons (dC (.int 0)) aNil)))) ρ6 (S5 ++ pgCells p n) = some (.loc (n + 3), S5 ++ pgCells p n ++ pgCells p (n + 3)) := by
    have := mk_page (p := p) rfl rfl (mkE (ρ := ρ6) (S := S5 ++ pgCells p n))
    rw [List.length_append] at this
    exact this
  have pv : dPrim pLstM (aCons (dMake "Page" F_Page_init [] (aCons (dC (.int 0)) (aCons (dC (.int 0)) (aCons (dC (.int 0)) (aCons (dC (.int 0)) aNil))))) (aCons (dMake "Page" F_Page_init [] (aCons (dC (.int 0)) (aCons (dC (.int 0)) (aCons (dC (.int 0)) (aCons (dC (.int 0)) aNil))))) aNil)) ρ6 S5 = some (.loc (n + 6), S5 ++ C7) := by
    refine prim_of (args2 m1 m2) ?_
    have : pLstM [.loc n, .loc (n + 3)] (S5 ++ pgCells p n ++ pgCells p (n + 3)) = some (.loc (S5 ++ pgCells p n ++ pgCells p (n + 3)).length, (S5 ++ pgCells p n ++ pgCells p (n + 3)) ++ [.lst [.loc n, .loc (n + 3)]]) := rfl
    rw [this, List.length_append, List.length_append, List.append_assoc, List.append_assoc]
    rfl
  have A7 := T7.at_
  have s7 : dSetF AT "pages" (dPrim pLstM (aCons (dMake "Page" F_Page_init [] (aCons (dC (.int 0)) (aCons (dC (.int 0)) (aCons (dC (.int 0)) (aCons (dC (.int 0)) aNil))))) (aCons (dMake "Page" F_Page_init [] (aCons (dC (.int 0)) (aCons (dC (.int 0)) (aCons (dC (.int 0)) (aCons (dC (.int 0)) aNil))))) aNil))) (dVar 0) ρ6 S5 = some (.nx ρ6 _) :=
    setF_at (n := a) (C := "Store") (fs := fs) pv rfl (A7.at 0) rfl (show (2 : Nat) < 1000 by decide)
  have t8 := Stp.set A7 0 (.ins "Store" (putFD "pages" (.loc (n + 6)) fs))
  generalize hS8 : (S5 ++ C7).set a (.ins "Store" (putFD "pages" (.loc (n + 6)) fs)) = S8 at t8
  let fs8 : List (Str × DV) := [("home", .loc hm), ("sizes", .loc sz), ("pages", .loc (n + 6))]
  have T8 : Stp S [] S8 [(a, .ins "Store" fs8), (hm, dkP intD Z.homeL), (sz, dkS intD Z.szL), (n, .ins "Page" (pgF p (n + 1) (n + 2))), (n + 1, .lst []), (n + 2, .lst []), (n + 3, .ins "Page" (pgF p (n + 4) (n + 5))), (n + 4, .lst []), (n + 5, .lst []), (n + 6, .lst [.loc n, .loc (n + 3)])] := (T7.trans t8).of_eq rfl
  have s7 : dSetF AT "pages" (dPrim pLstM (aCons (dMake "Page" F_Page_init [] (aCons (dC (.int 0)) (aCons (dC (.int 0)) (aCons (dC (.int 0)) (aCons (dC (.int 0)) aNil))))) (aCons (dMake "Page" F_Page_init [] (aCons (dC (.int 0)) (aCons (dC (.int 0)) (aCons (dC (.int 0)) (aCons (dC (.int 0)) aNil))))) aNil))) (dVar 0) ρ6 S5 = some (.nx ρ6 S8) := by
    rw [← hS8]
    exact s7
  -- the begin's boxes
  have A8 := T8.at_
  let st (b : List DV) : Sto := S8.set (n + 1) (.lst b)
  have stl : (n + 1) < S8.length := (List.getElem?_eq_some_iff.mp (A8.at 4)).1
  have q0 : ∀ b, (st b)[a]? = some (.ins "Store" fs8) := fun b => by
    show (S8.set (n + 1) _)[a]? = _
    rw [List.getElem?_set_ne (A8.ne 4 0)]
    exact A8.at 0
  have q9 : ∀ b, (st b)[n + 6]? = some (.lst [.loc n, .loc (n + 3)]) := fun b => by
    show (S8.set (n + 1) _)[n + 6]? = _
    rw [List.getElem?_set_ne (A8.ne 4 9)]
    exact A8.at 9
  have q3 : ∀ b, (st b)[n]? = some (.ins "Page" (pgF p (n + 1) (n + 2))) := fun b => by
    show (S8.set (n + 1) _)[n]? = _
    rw [List.getElem?_set_ne (A8.ne 4 3)]
    exact A8.at 3
  have q4 : ∀ b, (st b)[n + 1]? = some (.lst b) := fun b => List.getElem?_set_self stl
  obtain ⟨ρ', e9, z3, rfl⟩ := for_app (D := fun x : Str => DV.str x) (E := fun x : Str => bvD (x, 0)) (g := gSet 3) (body := dExpr (dMt pAppend (dFld AT "held" (dBin pIx (dFld AT "pages" (dVar 0)) (dC (.int 0)))) (aCons (dPrim pTup (aCons (dVar 3) (aCons (dC (.int 0)) aNil))) aNil))) (I := fun ρ => ∃ x3, ρ = stE a P B x3 y4 y5 y6 y7) (st := st) 2000 Z.beg [] ρ6 ⟨y3, rfl⟩ (by rw [List.length_nil]; omega) fun x hx b ρ hb hI => by
    obtain ⟨x3, rfl⟩ := hI
    refine ⟨stE a P B (some (.str x)) y4 y5 y6 y7, st b, stE a P B (some (.str x)) y4 y5 y6 y7, rfl, ?_, some (.str x), rfl⟩
    have f1 : dFld AT "held" (dBin pIx (dFld AT "pages" (dVar 0)) (dC (.int 0))) (stE a P B (some (.str x)) y4 y5 y6 y7) (st b) = some (.loc (n + 1), st b) :=
      fld_at (n := n) (C := "Page") (fs := pgF p (n + 1) (n + 2)) (bin_of (x := .loc (n + 6)) (y := .int 0) (fld_at (n := a) (C := "Store") (fs := fs8) rfl (q0 b) rfl rfl) rfl (ix_loc (q9 b) (atD_nat (k := 0) rfl))) (q3 b) rfl rfl
    refine (append_of f1 (q4 b) (y := bvD (x, 0)) rfl (by omega)).trans ?_
    show some (Out.nx _ ((S8.set (n + 1) (.lst b)).set (n + 1) _)) = some (Out.nx _ (S8.set (n + 1) _))
    rw [List.set_set]
  have e0 : st [] = S8 := by
    obtain ⟨g1, g2⟩ := List.getElem?_eq_some_iff.mp (A8.at 4)
    have : S8.set (n + 1) (S8[n + 1]'g1) = S8 := List.set_getElem_self g1
    rw [g2] at this
    exact this
  rw [e0, List.nil_append] at e9
  have t9 := Stp.set A8 4 (.lst (Z.beg.map fun x => bvD (x, 0)))
  have eh : Z.beg.map (fun x => bvD (x, 0)) = (pg0 Z.beg).held.map bvD := by
    show _ = (Z.beg.map fun x => (x, (0 : Int))).map bvD
    rw [List.map_map]
    rfl
  have T9 : Stp S [] (st (Z.beg.map fun x => bvD (x, 0))) [(a, .ins "Store" fs8), (hm, dkP intD Z.homeL), (sz, dkS intD Z.szL), (n, .ins "Page" (pgF p (n + 1) (n + 2))), (n + 1, .lst (Z.beg.map fun x => bvD (x, 0))), (n + 2, .lst []), (n + 3, .ins "Page" (pgF p (n + 4) (n + 5))), (n + 4, .lst []), (n + 5, .lst []), (n + 6, .lst [.loc n, .loc (n + 3)])] := (T8.trans t9).of_eq rfl
  rw [eh] at T9 e9
  generalize st ((pg0 Z.beg).held.map bvD) = S9 at T9 e9
  obtain ⟨S10, e10, t10⟩ := fldV (f := "front") (v := dC (.int 0)) (o := dVar 0) (ρ := stE a P B z3 y4 y5 y6 y7) T9.at_ 0 rfl rfl rfl rfl (show (3 : Nat) < 1000 by decide)
  have T10 := T9.trans t10
  obtain ⟨S11, e11, t11⟩ := fldV (f := "final") (v := dC .non) (o := dVar 0) (ρ := stE a P B z3 y4 y5 y6 y7) t10.at_ 0 rfl rfl rfl rfl (show (4 : Nat) < 1000 by decide)
  refine ⟨S11, hm, sz, n, n + 1, n + 2, n + 3, n + 4, n + 5, n + 6, ?_, (T10.trans t11).of_eq rfl⟩
  have itC : ∀ {ρ : List (Option DV)} {S : Sto}, dVar 1 ρ S = some (Z.PD, S) → iSeq (dBin pIx (dVar 1) (dC (.int 0))) ρ S = some (Z.cells.map thD, S) := fun {ρ S} h => iSeqT_of (bin_of (x := Z.PD) (y := .int 0) h rfl rfl)
  have itS : ∀ {ρ : List (Option DV)} {S : Sto}, dVar 1 ρ S = some (Z.PD, S) → iSeq (dBin pIx (dVar 1) (dC (.int 1))) ρ S = some (Z.shelves.map thD, S) := fun {ρ S} h => iSeqT_of (bin_of (x := Z.PD) (y := .int 1) h rfl rfl)
  exact run_nx rfl ((seq_nx e1).trans ((seq_nx e2).trans ((seq_nx (for_of (itC rfl) e3)).trans ((seq_nx (for_of (itS rfl) e4)).trans ((seq_nx s7).trans ((seq_nx (for_of (iSeqT_of (xs := Z.beg.map fun x => DV.str x) rfl) e9)).trans ((seq_nx e10).trans e11)))))))
end Lk61

namespace Lk61
open PySem PySem.Spec PyProof.Rows L2 Dn
theorem make_of {C : Str} {F : PL} {fa : DA} {xs : List DV} {ρ : List (Option DV)} {S S1 S2 : Sto} (ha : fa ρ S = some (xs, S1)) (hF : F (.loc S1.length :: xs) (S1 ++ [.ins C []]) = some (.non, S2)) : dMake C F [] fa ρ S = some (.loc S1.length, S2) := by
  unfold dMake
  simp only [ha]
  rw [List.append_nil, hF]
end Lk61

namespace Lk61
open PySem PySem.Spec PyProof.Rows L2 Dn
/-! ### a store alone -/
section
variable {Z : Hst} {S S0 : Sto} {L : HL} {h : Hs} {ρ : List (Option DV)} {f : Str} {d : DV} {g o : DE}
theorem s_f (A : AtS S (stC Z L h)) (hg : g ρ S0 = some (.loc L.st, S)) (hl : (stF L h).lookup f = some d := by rfl) (hT : AT.contains (("Store" : Str), f) = true := by rfl) : dFld AT f g ρ S0 = some (d, S) := fld_at hg (ss_st A) hT hl
theorem s_m {m : Str} {F : PL} {fa : DA} {xs : List DV} {S2 : Sto} {r : Option (DV × Sto)} (A : AtS S (stC Z L h)) (hg : o ρ S0 = some (.loc L.st, S)) (ha : fa ρ S = some (xs, S2)) (hF : F (.loc L.st :: xs) S2 = r) (hl : (stF L h).lookup m = none := by rfl) : dMeth "Store" m F [] o fa ρ S0 = r := (meth_at hg (ss_st A) hl ha).trans hF
theorem s_at_p (A : AtS S (stC Z L h)) (b : Bool) : S[HL.pL L b]? = some (.ins "Page" (pgF (h.page b) (HL.hL L b) (HL.tL L b))) := by
  cases b
  · exact ss_p0 A
  · exact ss_p1 A
theorem s_at_h (A : AtS S (stC Z L h)) (b : Bool) : S[HL.hL L b]? = some (.lst ((h.page b).held.map bvD)) := by
  cases b
  · exact ss_h0 A
  · exact ss_h1 A
theorem s_at_t (A : AtS S (stC Z L h)) (b : Bool) : S[HL.tL L b]? = some (.lst ((h.page b).turned.map tnD)) := by
  cases b
  · exact ss_t0 A
  · exact ss_t1 A
theorem s_pages (A : AtS S (stC Z L h)) {b : Bool} {g e : DE} (hg : g ρ S = some (.loc L.st, S)) (he : e ρ S = some (.int (frN b : Nat), S)) : dBin pIx (dFld AT "pages" g) e ρ S = some (.loc (HL.pL L b), S) := by
  refine bin_of (x := .loc L.pg) (s_f A hg) he (ix_loc (ss_pg A) (atD_nat ?_))
  cases b <;> rfl
theorem s_face (A : AtS S (stC Z L h)) : F_Store_face [.loc L.st] S = some (.int (frN h.front : Nat), S) := run_rt rfl (ret_of (s_f A rfl))
theorem s_home (A : AtS S (stC Z L h)) {p : Pl} {v : Int} (hp : agt h.home p = some v) : F_Store_get_home [.loc L.st, .str p.1, .int (p.2 : Nat)] S = some (.int v, S) := by
  refine run_rt rfl (ret_of (bin_of (x := .loc L.hm) (y := plD p) (s_f A rfl) rfl (ix_of (asL_ndit (ss_hm A)) ?_)))
  rw [getD_P (ss_hm A), hp]
  rfl
theorem s_put (A : AtS S (stC Z L h)) (p : Pl) (v : Int) (hz : h.home.length < 16777216) : ∃ S', F_Store_put [.loc L.st, .str p.1, .int (p.2 : Nat), .int v] S = some (.non, S') ∧ SSt Z S L h S' L { h with home := apt h.home p v } :=
  ⟨_, run_nx rfl (sub_of (x := .loc L.hm) (k := plD p) (y := .int v) rfl (s_f A rfl) rfl (setI_P (f := intD) (v := v) (ss_hm A) hz)), sset_hm A _⟩
theorem s_back_no (A : AtS S (stC Z L h)) {ρ : List (Option DV)} : dBin pSub (dC (.int 1)) (dFld AT "front" (dVar 0)) (some (.loc L.st) :: ρ) S = some (.int (frN (!h.front) : Nat), S) := by
  refine (subI_of (a := 1) (b := (frN h.front : Nat)) rfl (s_f A rfl)).trans ?_
  cases h.front <;> rfl
theorem s_turn (A : AtS S (stC Z L h)) : ∃ S', F_Store_turn [.loc L.st] S = some (.non, S') ∧ SSt Z S L h S' L (h.deed .face) :=
  ⟨_, run_nx rfl (setF_at (s_back_no A) rfl (ss_st A) rfl (show (5 : Nat) < 1000 by decide)), sset_st A (!h.front) h.fin⟩
theorem s_back (A : AtS S (stC Z L h)) {f : Str} {d : DV} {ρ : List (Option DV)} (hl : (pgF h.back (HL.hL L (!h.front)) (HL.tL L (!h.front))).lookup f = some d) (hT : AT.contains (("Page" : Str), f) = true) :
    dFld AT f (dBin pIx (dFld AT "pages" (dVar 0)) (dBin pSub (dC (.int 1)) (dFld AT "front" (dVar 0)))) (some (.loc L.st) :: ρ) S = some (d, S) :=
  fld_at (s_pages A rfl (s_back_no A)) (s_at_p A (!h.front)) hT hl
theorem s_begin (A : AtS S (stC Z L h)) (p : Pg) (h1 : p.held = []) (h2 : p.turned = []) : ∃ S' L', F_Store_begin_page [.loc L.st, .int (p.row : Nat), .int (p.done : Nat), .int (p.hears : Nat), .int (p.says : Nat)] S = some (.non, S') ∧ SSt Z S L h S' L' (h.setBack p) := by
  let ρ : List (Option DV) := [some (.loc L.st), some (.int (p.row : Nat)), some (.int (p.done : Nat)), some (.int (p.hears : Nat)), some (.int (p.says : Nat))]
  have mk : dMake "Page" F_Page_init [] (aCons (dVar 1) (aCons (dVar 2) (aCons (dVar 3) (aCons (dVar 4) aNil)))) ρ S = some (.loc S.length, S ++ pgCells p S.length) := mk_page (p := p) h1 h2 (argsC rfl (args3 rfl rfl rfl))
  have AJ : AtS (S ++ pgCells p S.length) (stC Z L h) := (Stp.junk A (T := pgCells p S.length) rfl).at_
  have e : dBin pSub (dC (.int 1)) (dFld AT "front" (dVar 0)) ρ (S ++ pgCells p S.length) = some (.int (frN (!h.front) : Nat), S ++ pgCells p S.length) := s_back_no AJ
  have fin : ∀ {S1 : Sto}, setI (.loc L.pg) (.int (frN (!h.front) : Nat)) (.loc S.length) (S ++ pgCells p S.length) = some S1 → F_Store_begin_page [.loc L.st, .int (p.row : Nat), .int (p.done : Nat), .int (p.hears : Nat), .int (p.says : Nat)] S = some (.non, S1) := fun {S1} hs => run_nx rfl (sub_of mk (s_f AJ rfl) e hs)
  cases hf : h.front with
  | true =>
    rw [hf] at fin
    refine ⟨_, { L with p0 := S.length, h0 := S.length + 1, t0 := S.length + 2 }, fin (setI_lst (ss_pg AJ) (j := 0) rfl), ?_⟩
    have : h.setBack p = { h with p0 := p } := by
      unfold Hs.setBack
      rw [if_pos hf]
    rw [this]
    exact snew_p0 A h1 h2
  | false =>
    rw [hf] at fin
    refine ⟨_, { L with p1 := S.length, h1 := S.length + 1, t1 := S.length + 2 }, fin (setI_lst (ss_pg AJ) (j := 1) rfl), ?_⟩
    have : h.setBack p = { h with p1 := p } := by
      unfold Hs.setBack
      rw [if_neg (by rw [hf]; decide)]
    rw [this]
    exact snew_p1 A h1 h2
theorem s_box (A : AtS S (stC Z L h)) (x : Str) (v : Int) (bz : h.back.held.length < 100000) : ∃ S', F_Store_keep_box [.loc L.st, .str x, .int v] S = some (.non, S') ∧ SSt Z S L h S' L (h.deed (.box x v)) := by
  let ρ : List (Option DV) := [some (.str x), some (.int v)]
  have e := app_at (f := dFld AT "held" (dBin pIx (dFld AT "pages" (dVar 0)) (dBin pSub (dC (.int 1)) (dFld AT "front" (dVar 0))))) (e := dPrim pTup (aCons (dVar 1) (aCons (dVar 2) aNil))) (ρ := some (.loc L.st) :: ρ) (S := S) (y := bvD (x, v)) (s_back A rfl rfl) (s_at_h A (!h.front)) rfl (by rw [List.length_map]; show h.back.held.length < _; omega)
  refine ⟨_, run_nx rfl e, ?_⟩
  have me : (h.page (!h.front)).held.map bvD ++ [bvD (x, v)] = (h.back.held ++ [(x, v)]).map bvD := by
    rw [List.map_append]
    rfl
  rw [me]
  have df : h.deed (.box x v) = h.setBack { h.back with held := h.back.held ++ [(x, v)] } := rfl
  cases hf : h.front with
  | true =>
    have hb : h.back = h.p0 := by
      unfold Hs.back Hs.page
      rw [hf]
      rfl
    have : h.deed (.box x v) = { h with p0 := { h.p0 with held := h.p0.held ++ [(x, v)] } } := by
      rw [df, hb]
      unfold Hs.setBack
      rw [if_pos hf]
    rw [this, hb]
    exact sset_h0 A _
  | false =>
    have hb : h.back = h.p1 := by
      unfold Hs.back Hs.page
      rw [hf]
      rfl
    have : h.deed (.box x v) = { h with p1 := { h.p1 with held := h.p1.held ++ [(x, v)] } } := by
      rw [df, hb]
      unfold Hs.setBack
      rw [if_neg (by rw [hf]; decide)]
    rw [this, hb]
    exact sset_h1 A _
theorem s_kturn (A : AtS S (stC Z L h)) (p : Pl) (v : Int) (tz : h.back.turned.length < 100000) : ∃ S', F_Store_keep_turn [.loc L.st, .str p.1, .int (p.2 : Nat), .int v] S = some (.non, S') ∧ SSt Z S L h S' L (h.deed (.turn p v)) := by
  let ρ : List (Option DV) := [some (.str p.1), some (.int (p.2 : Nat)), some (.int v)]
  have e := app_at (f := dFld AT "turned" (dBin pIx (dFld AT "pages" (dVar 0)) (dBin pSub (dC (.int 1)) (dFld AT "front" (dVar 0))))) (e := dPrim pTup (aCons (dPrim pTup (aCons (dVar 1) (aCons (dVar 2) aNil))) (aCons (dVar 3) aNil))) (ρ := some (.loc L.st) :: ρ) (S := S) (y := tnD (p, v)) (s_back A rfl rfl) (s_at_t A (!h.front)) rfl (by rw [List.length_map]; show h.back.turned.length < _; omega)
  refine ⟨_, run_nx rfl e, ?_⟩
  have me : (h.page (!h.front)).turned.map tnD ++ [tnD (p, v)] = (h.back.turned ++ [(p, v)]).map tnD := by
    rw [List.map_append]
    rfl
  rw [me]
  have df : h.deed (.turn p v) = h.setBack { h.back with turned := h.back.turned ++ [(p, v)] } := rfl
  cases hf : h.front with
  | true =>
    have hb : h.back = h.p0 := by
      unfold Hs.back Hs.page
      rw [hf]
      rfl
    have : h.deed (.turn p v) = { h with p0 := { h.p0 with turned := h.p0.turned ++ [(p, v)] } } := by
      rw [df, hb]
      unfold Hs.setBack
      rw [if_pos hf]
    rw [this, hb]
    exact sset_t0 A _
  | false =>
    have hb : h.back = h.p1 := by
      unfold Hs.back Hs.page
      rw [hf]
      rfl
    have : h.deed (.turn p v) = { h with p1 := { h.p1 with turned := h.p1.turned ++ [(p, v)] } } := by
      rw [df, hb]
      unfold Hs.setBack
      rw [if_neg (by rw [hf]; decide)]
    rw [this, hb]
    exact sset_t1 A _
/-- the begin's store -/
theorem s_made (Z : Hst) (ZZ : Z.Zs) (bz : Z.beg.length ≤ 1000) (S : Sto) : ∃ S' L, F_Store_init [.loc S.length, Z.PD, bxD Z.beg] (S ++ [.ins "Store" []]) = some (.non, S') ∧ Stp S [] S' (stC Z L Z.init) ∧ L.st = S.length := by
  obtain ⟨S', hm, sz, p0, h0, t0, p1, h1, t1, pg, e, T⟩ := store_made Z ZZ bz S
  exact ⟨S', ⟨0, 0, 0, 0, S.length, 0, 0, 0, 0, hm, sz, pg, p0, p1, h0, t0, h1, t1, 0⟩, e, T.of_eq rfl, rfl⟩
end
end Lk61

namespace Lk61
open PySem PySem.Spec PyProof.Rows L2 Dn
/-! ### the law's numbers and names -/
def w_ps : List Int := [10007, 10009, 10037, 10039, 10061, 10067, 10069, 10079]
theorem w_ps_pos : ∀ r, r < 8 → 0 < w_ps.getD r 0 := by decide
def w_pt (c : Int) (j : Nat) (m : Int) : Int := (c * 48271 + 7919 * (j : Int)) % w_ps.getD (j % 8) 0 % m
theorem w_pt_in {c : Int} {j : Nat} {m : Int} (hm : 0 < m) : 0 ≤ w_pt c j m ∧ w_pt c j m < m := ⟨Int.emod_nonneg _ (by omega), Int.emod_lt_of_pos _ hm⟩
theorem w_part (c : Int) (j : Nat) (m : Int) (hm : 0 < m) : pureOf F_law_part [.int c, .int (j : Nat), .int m] = some (.int (w_pt c j m)) := by
  let N (x3 : Option DV) : List (Option DV) := [some (.int c), some (.int (j : Nat)), some (.int m), x3]
  let P : DV := .tup (w_ps.map .int)
  have s3 : dSet 3 (dPrim pTup (aCons (dC (.int 10007)) (aCons (dC (.int 10009)) (aCons (dC (.int 10037)) (aCons (dC (.int 10039)) (aCons (dC (.int 10061)) (aCons (dC (.int 10067)) (aCons (dC (.int 10069)) (aCons (dC (.int 10079)) aNil))))))))) (N none) ([] : Sto) = some (.nx (N (some P)) []) := rfl
  have hr : j % 8 < 8 := Nat.mod_lt _ (by decide)
  have ix : dBin pIx (dVar 3) (dBin pMod (dVar 1) (dC (.int 8))) (N (some P)) ([] : Sto) = some (.int (w_ps.getD (j % 8) 0), []) := by
    have e : dBin pMod (dVar 1) (dC (.int 8)) (N (some P)) ([] : Sto) = some (.int ((j % 8 : Nat) : Int), []) := by
      rw [show ((j % 8 : Nat) : Int) = (j : Int) % 8 by omega]
      exact modI_of (a := (j : Nat)) (b := 8) rfl rfl (by decide)
    refine bin_of (x := P) rfl e (ix_tup (atD_nat ?_))
    rw [List.getElem?_map, List.getD_eq_getElem?_getD, List.getElem?_eq_getElem (show j % 8 < w_ps.length from hr)]; rfl
  have ad : dBin pAdd (dBin pMul (dVar 0) (dC (.int 48271))) (dBin pMul (dC (.int 7919)) (dVar 1)) (N (some P)) ([] : Sto) = some (.int (c * 48271 + 7919 * (j : Int)), []) :=
    addI_of (bin_of (x := .int c) (y := .int 48271) rfl rfl (v_mulI (by decide))) (bin_of (x := .int 7919) (y := .int (j : Nat)) rfl rfl (v_mulIl (by decide)))
  exact pureOf_of (S' := []) (run_rt rfl ((seq_nx s3).trans (ret_of (modI_of (modI_of ad ix (w_ps_pos _ hr)) (b := m) rfl hm)))) rfl
theorem w_part_of {f g e : DE} {ρ : List (Option DV)} {S S1 S2 S3 : Sto} {c m : Int} {j : Nat} (h1 : f ρ S = some (.int c, S1)) (h2 : g ρ S1 = some (.int (j : Nat), S2)) (h3 : e ρ S2 = some (.int m, S3)) (hm : 0 < m) : dPrim (cP (pureOf F_law_part) []) (aCons f (aCons g (aCons e aNil))) ρ S = some (.int (w_pt c j m), S3) :=
  callPP (args3 h1 h2 h3) rfl (w_part c j m hm)
theorem w_cell (k : LK) (ns : List Int) (i : Nat) (hi : i < 100) : ∃ x : Int, pureOf F_law_cell [.lst k (ns.map .int), .int (i : Nat)] = some (.int x) := by
  let Sc : DV := .lst k (ns.map .int)
  let N (x2 : Option DV) : List (Option DV) := [some Sc, some (.int (i : Nat)), x2]
  have ln : ∀ {x2}, dPrim pLen (aCons (dVar 0) aNil) (N x2) ([] : Sto) = some (.int (ns.length : Nat), []) := fun {x2} => by
    have := lenL_of (f := dVar 0) (ρ := N x2) (S := []) (k := k) (xs := ns.map .int) rfl
    rw [List.length_map] at this
    exact this
  have at_ : ∀ {j : Nat} {x2 : Option DV} {e : DE}, j < ns.length → e (N x2) ([] : Sto) = some (.int (j : Nat), []) → dBin pIx (dVar 0) e (N x2) ([] : Sto) = some (.int (ns.getD j 0), []) := fun {j x2 e} hj he => by
    refine bin_of (x := Sc) rfl he (ix_seq (atD_nat ?_))
    rw [List.getElem?_map, List.getD_eq_getElem?_getD, List.getElem?_eq_getElem hj]; rfl
  have c1 : dBin pLt (dVar 1) (dPrim pLen (aCons (dVar 0) aNil)) (N none) ([] : Sto) = some (.bl (decide ((i : Int) < ns.length)), []) := bin_of (x := .int (i : Nat)) rfl ln Dn.v_lt
  by_cases q : (i : Int) < ns.length
  · rw [decide_eq_true q] at c1
    exact ⟨_, pureOf_of (S' := []) (run_rt rfl (seq_rt ((ifS_t c1).trans (ret_of (at_ (j := i) (by omega) rfl))))) rfl⟩
  · rw [decide_eq_false q] at c1
    have s1 : dIfS (dBin pLt (dVar 1) (dPrim pLen (aCons (dVar 0) aNil))) (dRet (dBin pIx (dVar 0) (dVar 1))) dNext (N none) ([] : Sto) = some (.nx (N none) []) := (ifS_f c1).trans rfl
    have s2 : dSet 2 (dC (.int 7)) (N none) ([] : Sto) = some (.nx (N (some (.int 7))) []) := rfl
    have s3 : ∃ z : Int, -1000000 < z ∧ z < 1000000 ∧ dIfS (dBin pGt (dPrim pLen (aCons (dVar 0) aNil)) (dC (.int 0))) (dSet 2 (dBin pMod (dBin pIx (dVar 0) (dBin pMod (dVar 1) (dPrim pLen (aCons (dVar 0) aNil)))) (dC (.int 999983)))) dNext (N (some (.int 7))) ([] : Sto) = some (.nx (N (some (.int z))) []) := by
      have c2 : dBin pGt (dPrim pLen (aCons (dVar 0) aNil)) (dC (.int 0)) (N (some (.int 7))) ([] : Sto) = some (.bl (decide ((0 : Int) < ns.length)), []) := bin_of ln (y := .int 0) rfl Dn.v_gt
      by_cases p : (0 : Int) < ns.length
      · rw [decide_eq_true p] at c2
        have m1 : dBin pMod (dVar 1) (dPrim pLen (aCons (dVar 0) aNil)) (N (some (.int 7))) ([] : Sto) = some (.int ((i % ns.length : Nat) : Int), []) := by
          rw [show ((i % ns.length : Nat) : Int) = (i : Int) % (ns.length : Int) from Int.natCast_emod i ns.length]
          exact modI_of (a := (i : Nat)) rfl ln p
        refine ⟨ns.getD (i % ns.length) 0 % 999983, by have := Int.emod_nonneg (ns.getD (i % ns.length) 0) (show (999983 : Int) ≠ 0 by decide); omega, by have := Int.emod_lt_of_pos (ns.getD (i % ns.length) 0) (show (0 : Int) < 999983 by decide); omega, (ifS_t c2).trans (set_of (modI_of (at_ (Nat.mod_lt _ (by omega)) m1) (b := 999983) rfl (by decide)))⟩
      · rw [decide_eq_false p] at c2
        exact ⟨7, by decide, by decide, (ifS_f c2).trans rfl⟩
    obtain ⟨z, z0, z1, s3⟩ := s3
    let ρ := N (some (.int z))
    have t1 : dBin pAdd (dBin pAdd (dVar 2) (dBin pMul (dC (.int 613)) (dVar 1))) (dC (.int 29)) ρ ([] : Sto) = some (.int (z + 613 * (i : Int) + 29), []) := addI_of (addI_of (a := z) rfl (bin_of (x := .int 613) (y := .int (i : Nat)) rfl rfl (v_mulIl (by decide)))) (b := 29) rfl
    have t2 : dBin pAdd (dBin pAdd (dVar 2) (dBin pMul (dC (.int 71)) (dVar 1))) (dC (.int 5)) ρ ([] : Sto) = some (.int (z + 71 * (i : Int) + 5), []) := addI_of (addI_of (a := z) rfl (bin_of (x := .int 71) (y := .int (i : Nat)) rfl rfl (v_mulIl (by decide)))) (b := 5) rfl
    exact ⟨_, pureOf_of (S' := []) (run_rt rfl ((seq_nx s1).trans ((seq_nx s2).trans ((seq_nx s3).trans (ret_of (modI_of (bin_of t1 t2 (v_mulI (by omega))) (b := 1000003) rfl (by decide))))))) rfl⟩
/-! ### names -/
def w_nl (b : Int) : List Nat := (List.range (1 + w_pt b 7 6).toNat).map fun j => 97 + (w_pt b j 26).toNat
def w_nm (b : Int) (k : Nat) : Str := txt ((w_nl b).set (w_pt b 3 (1 + w_pt b 7 6)).toNat (97 + ((w_pt b 4 26 + (k : Int)) % 26).toNat))
theorem w_join_loc {f : DE} {ρ : Ev} {S S1 : Sto} {n : Nat} {cs : List Nat} (h : f ρ S = some (.loc n, S1)) (hn : S1[n]? = some (.lst (cs.map fun c => .str (one1 c)))) (hl : cs.length ≤ 1000000) : dM1 pJoin (dC (.str "")) f ρ S = some (.str (txt cs), S1) := by
  unfold dM1
  simp only [v_c, h]
  unfold pJoin itemsD
  simp only [asL_loc hn, strsD_map]
  have e := ones_sum cs
  rw [if_pos, Dn.join_ones]
  rw [e]
  show cs.length + (cs.map one1).length * 0 ≤ _
  omega
theorem w_name (b : Int) (k : Nat) : pureOf F_law_name [.int b, .int (k : Nat)] = some (.str (w_nm b k)) := by
  let N (x2 x3 x4 x5 : Option DV) : List (Option DV) := [some (.int b), some (.int (k : Nat)), x2, x3, x4, x5]
  let o : Option DV := none
  let j2 : Option DV := some (.str "abcdefghijklmnopqrstuvwxyz")
  have sz := w_pt_in (c := b) (j := 7) (m := 6) (by decide)
  obtain ⟨n, hn⟩ : ∃ n : Nat, 1 + w_pt b 7 6 = (n : Nat) := ⟨(1 + w_pt b 7 6).toNat, by omega⟩
  have nn : (1 + w_pt b 7 6).toNat = n := by omega
  let j3 : Option DV := some (.int (n : Nat))
  have ps := w_pt_in (c := b) (j := 3) (m := (n : Int)) (by omega)
  let A : List Nat := (List.range n).map fun j => 97 + (w_pt b j 26).toNat
  have A0 : w_nl b = A := by unfold w_nl; rw [nn]
  have Al : A.length = n := by show ((List.range n).map _).length = n; rw [List.length_map, List.length_range]
  have s2 : dSet 2 (dC (.str "abcdefghijklmnopqrstuvwxyz")) (N o o o o) ([] : Sto) = some (.nx (N j2 o o o) []) := rfl
  have s3 : dSet 3 (dBin pAdd (dC (.int 1)) (dPrim (cP (pureOf F_law_part) []) (aCons (dVar 0) (aCons (dC (.int 7)) (aCons (dC (.int 6)) aNil))))) (N j2 o o o) ([] : Sto) = some (.nx (N j2 j3 o o) []) := by
    have : dBin pAdd (dC (.int 1)) (dPrim (cP (pureOf F_law_part) []) (aCons (dVar 0) (aCons (dC (.int 7)) (aCons (dC (.int 6)) aNil)))) (N j2 o o o) ([] : Sto) = some (.int (n : Nat), []) := by
      rw [← hn]
      exact addI_of (a := 1) rfl (w_part_of (c := b) (j := 7) (m := 6) rfl rfl rfl (by decide))
    exact set_of this
  have s4 : dSet 4 (dLcM (iRange1 (aCons (dVar 3) aNil)) (gSet 5) (dC (.bl true)) (dBin pIx (dVar 2) (dPrim (cP (pureOf F_law_part) []) (aCons (dVar 0) (aCons (dVar 5) (aCons (dC (.int 26)) aNil))))) [5]) (N j2 j3 o o) ([] : Sto) = some (.nx (N j2 j3 (some (.loc 0)) o) [.lst (A.map fun c => .str (one1 c))]) := by
    refine set_of ((dLcM_of (S1 := []) (S2 := []) (rgN_of (n := n) rfl (by omega)) (lc_all (D := fun (i : Nat) => DV.int i) (E := fun j => DV.str (one1 (97 + (w_pt b j 26).toNat))) (K := List.range n) fun j _ => ?_) (size_ok (by rw [List.length_map, List.length_range]; omega))).trans ?_)
    · have pj := w_pt_in (c := b) (j := j) (m := 26) (by decide)
      refine ⟨N j2 j3 o (some (.int (j : Nat))), rfl, rfl, bin_of (x := .str "abcdefghijklmnopqrstuvwxyz") rfl (w_part_of (c := b) (j := j) (m := 26) rfl rfl rfl (by decide)) (abc_ix pj.1 pj.2)⟩
    · simp only [A, List.map_map]; rfl
  let c : Nat := 97 + ((w_pt b 4 26 + (k : Int)) % 26).toNat
  let p : Nat := (w_pt b 3 (n : Int)).toNat
  have pl : p < n := by show (w_pt b 3 (n : Int)).toNat < n; omega
  have m0 := Int.emod_nonneg (w_pt b 4 26 + (k : Int)) (show (26 : Int) ≠ 0 by decide)
  have m1 := Int.emod_lt_of_pos (w_pt b 4 26 + (k : Int)) (show (0 : Int) < 26 by decide)
  have s5 : dSub (dBin pIx (dVar 2) (dBin pMod (dBin pAdd (dPrim (cP (pureOf F_law_part) []) (aCons (dVar 0) (aCons (dC (.int 4)) (aCons (dC (.int 26)) aNil)))) (dVar 1)) (dC (.int 26)))) (dVar 4) (dPrim (cP (pureOf F_law_part) []) (aCons (dVar 0) (aCons (dC (.int 3)) (aCons (dVar 3) aNil)))) (N j2 j3 (some (.loc 0)) o) [.lst (A.map fun c => .str (one1 c))] = some (.nx (N j2 j3 (some (.loc 0)) o) [.lst ((A.set p c).map fun c => .str (one1 c))]) := by
    refine (sub_of (y := .str (one1 c)) (x := .loc 0) (k := .int (w_pt b 3 (n : Int))) (S1 := [.lst (A.map fun c => .str (one1 c))]) (bin_of (x := .str "abcdefghijklmnopqrstuvwxyz") rfl (modI_of (addI_of (w_part_of (c := b) (j := 4) (m := 26) rfl rfl rfl (by decide)) (b := (k : Nat)) rfl) (b := 26) rfl (by decide)) (abc_ix m0 m1)) rfl (w_part_of (c := b) (j := 3) (m := (n : Nat)) rfl rfl rfl (by omega)) (setI_lst (j := p) rfl ?_)).trans ?_
    · rw [List.length_map, Al]
      unfold ixN
      rw [if_pos (by omega)]
      first
        | rfl
        | (rw [if_pos (by omega)])
        | simp [p]
    · rw [List.map_set]; rfl
  have fin : w_nm b k = txt (A.set p c) := by
    unfold w_nm
    rw [A0, hn]
  rw [fin]
  exact pureOf_of (S' := [.lst ((A.set p c).map fun c => .str (one1 c))]) (run_rt rfl ((seq_nx s2).trans ((seq_nx s3).trans ((seq_nx s4).trans ((seq_nx s5).trans (ret_of (w_join_loc (n := 0) (cs := A.set p c) rfl rfl (by rw [List.length_set, Al]; omega)))))))) rfl
theorem w_nm_ok (b : Int) (k : Nat) : PyData.strOk (w_nm b k) = true := by
  have key : ∀ cs : List Nat, (∀ x ∈ cs, x < 1114112) → PyData.strOk (txt cs) = true := fun cs h => by
    unfold PyData.strOk
    rw [← Array.all_toList, List.all_eq_true]
    intro x hx
    exact decide_eq_true (h x (by simpa [txt] using hx))
  refine key _ fun x hx => ?_
  rcases List.mem_or_eq_of_mem_set hx with h | h
  · obtain ⟨j, _, rfl⟩ := List.mem_map.mp h
    have := w_pt_in (c := b) (j := j) (m := 26) (by decide)
    omega
  · have m1 := Int.emod_lt_of_pos (w_pt b 4 26 + (k : Int)) (show (0 : Int) < 26 by decide)
    omega
theorem w_nm_inj {b : Int} {i j : Nat} (hi : i < 26) (hj : j < 26) (h : w_nm b i = w_nm b j) : i = j := by
  have sz := w_pt_in (c := b) (j := 7) (m := 6) (by decide)
  have ps := w_pt_in (c := b) (j := 3) (m := 1 + w_pt b 7 6) (by omega)
  have h1 : (w_nl b).set (w_pt b 3 (1 + w_pt b 7 6)).toNat (97 + ((w_pt b 4 26 + (i : Int)) % 26).toNat) = (w_nl b).set (w_pt b 3 (1 + w_pt b 7 6)).toNat (97 + ((w_pt b 4 26 + (j : Int)) % 26).toNat) := by
    have := congrArg (fun s : Str => s.cps.toList) h
    simpa [w_nm, txt] using this
  have ll : (w_pt b 3 (1 + w_pt b 7 6)).toNat < (w_nl b).length := by
    unfold w_nl
    rw [List.length_map, List.length_range]
    omega
  have h2 := congrArg (fun l : List Nat => l[(w_pt b 3 (1 + w_pt b 7 6)).toNat]?) h1
  simp only [List.getElem?_set_self ll] at h2
  have := Option.some.inj h2
  omega
end Lk61

namespace Lk61
open PySem PySem.Spec PyProof.Rows L2 Dn
/-! ### data of one shape -/
def u_Sm : Nat → DV → DV → Prop
  | 0, _, _ => False
  | n + 1, f, d => (∃ i, f = .int i ∧ d = .int i) ∨ (∃ s, f = .str s ∧ d = .str s) ∨ (∃ fs ds, f = .tup fs ∧ d = .tup ds ∧ fs.length ≤ 1000 ∧ All2 (u_Sm n) fs ds) ∨ (∃ k k' fs ds, f = .lst k fs ∧ d = .lst k' ds ∧ (k ≠ .ext ∧ k' ≠ .ext) ∧ fs.length ≤ 1000 ∧ All2 (u_Sm n) fs ds)
theorem u_all2_at {P : DV → DV → Prop} : ∀ {fs ds : List DV}, All2 P fs ds → ∀ i, i < fs.length → ∃ f d, fs[i]? = some f ∧ ds[i]? = some d ∧ P f d
  | _, _, .nil, i, h => absurd h (Nat.not_lt_zero _)
  | _, _, .cons h t, 0, _ => ⟨_, _, rfl, rfl, h⟩
  | _, _, .cons h t, i + 1, hi => u_all2_at t i (Nat.lt_of_succ_lt_succ hi)
theorem u_blsD : ∀ l : List Nat, blsD (l.map fun _ => DV.bl true) = some (l.map fun _ => true)
  | [] => rfl
  | a :: l => by
    rw [List.map_cons]
    unfold blsD
    rw [u_blsD l]; rfl
theorem u_all_true (l : List Nat) {S : Sto} : pAll [.lst .own (l.map fun _ => DV.bl true)] S = some (.bl true, S) := by
  unfold pAll
  simp only [asL_lst, u_blsD]
  rw [show (l.map fun _ => true).all id = true by rw [List.all_eq_true]; intro x hx; obtain ⟨_, _, rfl⟩ := List.mem_map.mp hx; rfl]
theorem u_rec {bR : DS} {n : Nat} (ih : ∀ f d, u_Sm n f d → runF 2 3 bR [f, d] [] = some (.bl true, [])) {f d : DV} {x2 : Option DV} {fs ds : List DV} (hz : fs.length ≤ 1000) (A : All2 (u_Sm n) fs ds)
    (hf : ∀ (i : Nat) (x : DV), fs[i]? = some x → pIx f (.int (i : Nat)) [] = some (x, [])) (hd : ∀ (i : Nat) (x : DV), ds[i]? = some x → pIx d (.int (i : Nat)) [] = some (x, [])) (hl : dPrim pLen (aCons (dVar 1) aNil) [some f, some d, x2] [] = some (.int (ds.length : Nat), [])) :
    dRet (dPrim pAll (aCons (dLc (iRange1 (aCons (dPrim pLen (aCons (dVar 1) aNil)) aNil)) (gSet 2) (dC (.bl true)) (dPrim (cS (runF 2 3 bR) []) (aCons (dBin pIx (dVar 0) (dVar 2)) (aCons (dBin pIx (dVar 1) (dVar 2)) aNil))) [2]) aNil)) [some f, some d, x2] [] = some (.rt (.bl true) []) := by
  have len := A.len
  refine ret_of (prim_of (args1 (dLc_of (vs := [2]) (rgN_of (n := ds.length) hl (by omega)) (lc_all (D := fun (i : Nat) => DV.int i) (E := fun _ => DV.bl true) (K := List.range ds.length) fun i hi => ?_) (size_ok (by rw [List.length_map, List.length_range]; omega)))) (u_all_true _))
  obtain ⟨x, y, h1, h2, h3⟩ := u_all2_at A i (by rw [len]; exact List.mem_range.mp hi)
  exact ⟨[some f, some d, some (.int (i : Nat))], rfl, rfl, callS (args2 (bin_of (x := f) (y := .int (i : Nat)) rfl rfl (hf i x h1)) (bin_of (x := d) (y := .int (i : Nat)) rfl rfl (hd i y h2))) (ih x y h3)⟩
theorem u_same_run : ∀ (n : Nat) (f d : DV), u_Sm n f d → runF 2 3 (br_law_same n) [f, d] [] = some (.bl true, [])
  | 0, f, d, h => h.elim
  | n + 1, f, d, h => by
    have ih := u_same_run n
    show runF 2 3 (b_law_same (br_law_same n)) [f, d] [] = _
    rcases h with ⟨i, rfl, rfl⟩ | ⟨s, rfl, rfl⟩ | ⟨fs, ds, rfl, rfl, hz, A⟩ | ⟨k, k', fs, ds, rfl, rfl, ⟨kx, kx'⟩, hz, A⟩
    · refine run_rt rfl (seq_rt ((ifS_t rfl).trans (ret_of (and_t rfl (and_t rfl (bin_of (x := .int i) (y := .int i) rfl rfl (eq_int false)))))))
    · refine run_rt rfl ((seq_nx ((ifS_f rfl).trans rfl)).trans ((seq_nx ((ifS_f rfl).trans rfl)).trans ((seq_nx ((ifS_f rfl).trans rfl)).trans (ret_of (bin_of (x := .str s) (y := .str s) rfl rfl ?_)))))
      rw [v_eqS, decide_eq_true rfl]
    · have l0 := lenT_of (f := dVar 0) (ρ := [some (.tup fs), some (.tup ds), none]) (S := []) (S1 := []) (xs := fs) rfl
      have l1 := lenT_of (f := dVar 1) (ρ := [some (.tup fs), some (.tup ds), none]) (S := []) (S1 := []) (xs := ds) rfl
      rw [A.len] at l0
      exact run_rt rfl ((seq_nx ((ifS_f rfl).trans rfl)).trans (seq_rt ((ifS_t rfl).trans ((seq_nx ((ifS_f (or_f rfl (bin_of l0 l1 (eq_int true)))).trans rfl)).trans (u_rec ih hz A (fun i x h => ix_tup (atD_nat h)) (fun i x h => ix_tup (atD_nat h)) l1)))))
    · have l0 := lenL_of (f := dVar 0) (ρ := [some (.lst k fs), some (.lst k' ds), none]) (S := []) (S1 := []) (k := k) (xs := fs) rfl
      have l1 := lenL_of (f := dVar 1) (ρ := [some (.lst k fs), some (.lst k' ds), none]) (S := []) (S1 := []) (k := k') (xs := ds) rfl
      rw [A.len] at l0
      have t : ∀ {j : Nat} {kk : LK} {es : List DV} {ρ : Ev}, kk ≠ .ext → dVar j ρ [] = some (.lst kk es, []) → dIsi .list (dVar j) ρ [] = some (.bl true, []) := fun {j kk es ρ} hk h => by unfold dIsi; rw [h]; cases kk <;> first | rfl | exact absurd rfl hk
      have nt : ∀ {j : Nat} {kk : LK} {es : List DV} {ρ : Ev}, kk ≠ .ext → dVar j ρ [] = some (.lst kk es, []) → dIsi .int (dVar j) ρ [] = some (.bl false, []) ∧ dIsi .tuple (dVar j) ρ [] = some (.bl false, []) := fun {j kk es ρ} hk h => ⟨by unfold dIsi; rw [h]; cases kk <;> first | rfl | exact absurd rfl hk, by unfold dIsi; rw [h]; cases kk <;> first | rfl | exact absurd rfl hk⟩
      exact run_rt rfl ((seq_nx ((ifS_f (nt (j := 1) (kk := k') (es := ds) kx' rfl).1).trans rfl)).trans ((seq_nx ((ifS_f (nt (j := 1) (kk := k') (es := ds) kx' rfl).2).trans rfl)).trans (seq_rt ((ifS_t (t (j := 1) (kk := k') (es := ds) kx' rfl)).trans ((seq_nx ((ifS_f (or_f (not_of (t (j := 0) (kk := k) (es := fs) kx rfl)) (bin_of l0 l1 (eq_int true)))).trans rfl)).trans (u_rec ih hz A (fun i x h => ix_seq (atD_nat h)) (fun i x h => ix_seq (atD_nat h)) l1))))))
theorem u_cpL2 {S : Sto} {x y x' y' : DV} (hx : cpD true S x = some x') (hy : cpD true S y = some y') : cpL true S [x, y] = some [x', y'] := by
  have hx : mapD true (cpN true (S.length + 1) S) x = some x' := hx
  have hy : mapD true (cpN true (S.length + 1) S) y = some y' := hy
  show mapDL true (cpN true (S.length + 1) S) [x, y] = _
  simp only [mapDL, hx, hy]
theorem u_call {f g : DE} {ρ : Ev} {S S1 S2 : Sto} {x y x' y' : DV} (h1 : f ρ S = some (x, S1)) (h2 : g ρ S1 = some (y, S2)) (hx : cpD true S2 x = some x') (hy : cpD true S2 y = some y') (h : u_Sm 6 x' y') :
    dPrim (cP (pureOf F_law_same) []) (aCons f (aCons g aNil)) ρ S = some (.bl true, S2) :=
  callP (args2 h1 h2) (u_cpL2 hx hy) (pureOf_of (S' := []) (u_same_run 6 x' y' h) rfl)
theorem u_int {n : Nat} (i : Int) : u_Sm (n + 1) (.int i) (.int i) := .inl ⟨i, rfl, rfl⟩
theorem u_str {n : Nat} (s : Str) : u_Sm (n + 1) (.str s) (.str s) := .inr (.inl ⟨s, rfl, rfl⟩)
theorem u_map {α : Type} {P : DV → DV → Prop} {e e' : α → DV} (h : ∀ a, P (e a) (e' a)) : ∀ l : List α, All2 P (l.map e) (l.map e')
  | [] => .nil
  | a :: l => .cons (h a) (u_map h l)
theorem u_tup {n : Nat} {fs ds : List DV} (hz : fs.length ≤ 1000) (A : All2 (u_Sm n) fs ds) : u_Sm (n + 1) (.tup fs) (.tup ds) := .inr (.inr (.inl ⟨fs, ds, rfl, rfl, hz, A⟩))
theorem u_lst {n : Nat} {k k' : LK} {fs ds : List DV} (hz : fs.length ≤ 1000) (A : All2 (u_Sm n) fs ds) (hk : k ≠ .ext := by decide) (hk' : k' ≠ .ext := by decide) : u_Sm (n + 1) (.lst k fs) (.lst k' ds) := .inr (.inr (.inr ⟨k, k', fs, ds, rfl, rfl, ⟨hk, hk'⟩, hz, A⟩))
theorem u_bv {n : Nat} (q : Str × Int) : u_Sm (n + 2) (bvD q) (bvD q) := u_tup (by show 2 ≤ 1000; omega) (.cons (u_str q.1) (.cons (u_int q.2) .nil))
theorem u_tn {n : Nat} (q : Pl × Int) : u_Sm (n + 3) (tnD q) (tnD q) := u_tup (by show 2 ≤ 1000; omega) (.cons (u_tup (by show 2 ≤ 1000; omega) (.cons (u_str _) (.cons (u_int _) .nil))) (.cons (u_int q.2) .nil))
/-! ### the law's model -/
structure u_ML where
  hm : Nat
  d0 : Nat
  b0 : Nat
  t0 : Nat
  q0 : Nat
  o : Nat
  d1 : Nat
  b1 : Nat
  t1 : Nat
  q1 : Nat
  pg : Nat
  fc : Nat
  an : Nat
def u_hd (p : Pg) : List DV := [.int (p.row : Nat), .int (p.done : Nat), .int (p.hears : Nat), .int (p.says : Nat)]
def u_lcD (n : Nat) : DV := .loc n
def u_mK (M : u_ML) : List (Str × Nat) := [("home", M.hm), ("pages", M.pg), ("face", M.fc), ("answer", M.an)]
def u_mC (M : u_ML) (h : Hs) : Cs :=
  [(M.hm, dkP intD h.home), (M.d0, .lst (u_hd h.p0)), (M.b0, .lst (h.p0.held.map bvD)), (M.t0, .lst (h.p0.turned.map tnD)), (M.q0, .lst [.loc M.d0, .loc M.b0, .loc M.t0]), (M.o, dkS u_lcD (u_mK M)), (M.d1, .lst (u_hd h.p1)), (M.b1, .lst (h.p1.held.map bvD)), (M.t1, .lst (h.p1.turned.map tnD)), (M.q1, .lst [.loc M.d1, .loc M.b1, .loc M.t1]), (M.pg, .lst [.loc M.q0, .loc M.q1]), (M.fc, .lst [.int (frN h.front : Nat)]), (M.an, .lst [optI h.fin])]
theorem u_model (Z : Hst) (hc : Z.cells.length ≤ 100) (hs : Z.shelves.length ≤ 100) (hz : ∀ s ∈ Z.shelves, 0 ≤ s.2.1 ∧ s.2.1 ≤ 100) (bz : Z.beg.length ≤ 1000) (S : Sto) :
    ∃ S' M, F_law_model [Z.PD, bxD Z.beg] S = some (.loc M.o, S') ∧ Stp S [] S' (u_mC M Z.init) := by
  let o : Option DV := none
  let N (x2 x3 x4 x5 x6 x7 x8 : Option DV) : List (Option DV) := [some Z.PD, some (bxD Z.beg), x2, x3, x4, x5, x6, x7, x8]
  let n := S.length
  let hm : Option DV := some (.loc n)
  let st (l : List (Pl × Int)) : Sto := S ++ [dkP intD l]
  have at_n : ∀ l, (st l)[n]? = some (dkP intD l) := fun l => by
    show (S ++ [dkP intD l])[S.length]? = _
    rw [List.getElem?_append_right (Nat.le_refl _), Nat.sub_self]; rfl
  have set_n : ∀ l l', (st l).set n (dkP intD l') = st l' := fun l l' => by
    show (S ++ [dkP intD l]).set S.length _ = S ++ [dkP intD l']
    rw [List.set_append_right _ _ (Nat.le_refl _), Nat.sub_self]; rfl
  have s2 : dSet 2 (fun _ S => some (.loc S.length, S ++ [.dit [] []])) (N o o o o o o o) S = some (.nx (N hm o o o o o o) (st [])) := rfl
  obtain ⟨ρ3, e3, x4, x5, x6, rfl⟩ := put_loopP (g := gTupD 3 (gsCons (gSet 4) (gsCons (gSet 5) (gsCons (gSet 6) gsNil)))) (body := dSub (dVar 5) (dVar 2) (dPrim pTup (aCons (dVar 4) (aCons (dC (.int 0)) aNil)))) (D := thD) (f := intD) (kx := fun c : Thing => ((c.1, 0) : Pl)) (vx := fun c : Thing => c.2.1) (n := n) (I := fun ρ => ∃ x4 x5 x6, ρ = N hm o x4 x5 x6 o o) (J := fun _ => True) (fun _ _ _ => trivial) 6000000 Z.cells [] (N hm o o o o o o) (st []) ⟨o, o, o, rfl⟩ trivial (at_n []) (by rw [List.length_nil]; omega) fun c hc acc ρ S3 hI _ hA hz => by
    obtain ⟨x4, x5, x6, rfl⟩ := hI
    exact ⟨_, _, rfl, sub_of (x := .loc n) (k := plD (c.1, 0)) (y := .int c.2.1) rfl rfl rfl (setI_P (f := intD) (v := c.2.1) hA (by omega)), _, _, _, rfl⟩
  rw [set_n] at e3
  let H1 : List (Pl × Int) := Z.cells.foldl (fun l c => apt l (c.1, 0) c.2.1) []
  have hH1 : H1.length ≤ 1000 := by
    have key : ∀ (cs : List Thing) (acc : List (Pl × Int)), (cs.foldl (fun l c => apt l (c.1, 0) c.2.1) acc).length ≤ acc.length + cs.length := fun cs => by
      induction cs with
      | nil => intro acc; exact Nat.le_refl _
      | cons c cs ih =>
        intro acc
        have := ih (apt acc (c.1, 0) c.2.1)
        have := apt_len (l := acc) (k := (c.1, 0)) (v := c.2.1)
        rw [List.foldl_cons, List.length_cons]
        omega
    exact Nat.le_trans (key Z.cells []) (by rw [List.length_nil]; omega)
  have shelves : ∀ (l : List Thing) (H : List (Pl × Int)) (x4 x5 x6 x7 x8 : Option DV), (∀ s ∈ l, 0 ≤ s.2.1 ∧ s.2.1 ≤ 100) → H.length + 1000 * l.length ≤ 5000000 → ∃ y4 y5 y6 y7 y8, forL (gTupD 3 (gsCons (gSet 4) (gsCons (gSet 7) (gsCons (gSet 6) gsNil)))) (dFor (iRange1 (aCons (dVar 7) aNil)) (gSet 8) (dSub (dC (.int 0)) (dVar 2) (dPrim pTup (aCons (dVar 4) (aCons (dVar 8) aNil))))) (l.map thD) (N hm o x4 x5 x6 x7 x8) (st H) =
      some (.nx (N hm o y4 y5 y6 y7 y8) (st (l.foldl shelfL H))) := fun l => by
    induction l with
    | nil => intro H x4 x5 x6 x7 x8 _ _; exact ⟨x4, x5, x6, x7, x8, rfl⟩
    | cons c l ih =>
      intro H x4 x5 x6 x7 x8 hz hl
      rw [List.length_cons] at hl
      obtain ⟨z0, z1⟩ := hz c List.mem_cons_self
      let E (x8 : Option DV) := N hm o (some (.str c.1)) x5 (some (.bl c.2.2)) (some (.int c.2.1)) x8
      have hr : iRange1 (aCons (dVar 7) aNil) (E x8) (st H) = some ((List.range c.2.1.toNat).map fun (i : Nat) => DV.int i, st H) := by
        refine rgN_of (n := c.2.1.toNat) ?_ (by omega)
        rw [Int.toNat_of_nonneg z0]; rfl
      obtain ⟨ρ', e2, y8, rfl⟩ := put_loopP (g := gSet 8) (body := dSub (dC (.int 0)) (dVar 2) (dPrim pTup (aCons (dVar 4) (aCons (dVar 8) aNil)))) (D := fun (i : Nat) => DV.int i) (f := intD) (kx := fun i => (c.1, i)) (vx := fun _ => (0 : Int)) (n := n) (I := fun ρ => ∃ x8, ρ = E x8) (J := fun _ => True) (fun _ _ _ => trivial) 6000000 (List.range c.2.1.toNat) H (E x8) (st H) ⟨x8, rfl⟩ trivial (at_n H) (by rw [List.length_range]; omega) fun i hi acc ρ S2 hI _ hA hz => by
        obtain ⟨x8, rfl⟩ := hI
        exact ⟨_, _, rfl, sub_of (x := .loc n) (k := plD (c.1, i)) (y := .int 0) rfl rfl rfl (setI_P (f := intD) (v := (0 : Int)) hA (by omega)), _, rfl⟩
      rw [set_n] at e2
      have sl := shelf_len c H
      obtain ⟨y4, y5, y6, y7, z8, e⟩ := ih (shelfL H c) (some (.str c.1)) x5 (some (.bl c.2.2)) (some (.int c.2.1)) y8 (fun s h => hz s (List.mem_cons_of_mem _ h)) (by omega)
      refine ⟨y4, y5, y6, y7, z8, ?_⟩
      rw [List.map_cons]
      unfold forL
      have b : dFor (iRange1 (aCons (dVar 7) aNil)) (gSet 8) (dSub (dC (.int 0)) (dVar 2) (dPrim pTup (aCons (dVar 4) (aCons (dVar 8) aNil)))) (E x8) (st H) = some (.nx (E y8) (st (shelfL H c))) := for_of hr e2
      show (match dFor _ _ _ (E x8) (st H) with | some (.nx ρ2 S2) => _ | some (.ct ρ2 S2) => _ | some (.bk ρ2 S2) => _ | some (.rt v S2) => _ | none => _) = _
      rw [b]
      exact e
  obtain ⟨y4, y5, y6, y7, y8, e4⟩ := shelves Z.shelves H1 x4 x5 x6 o o hz (by omega)
  -- the pages
  let S1 : Sto := st Z.homeL
  let z4 : List DV := [.int 0, .int 0, .int 0, .int 0]
  let hl : List DV := (Z.beg.map fun x => (x, (0 : Int))).map bvD
  let S2 := S1 ++ [Cell.lst z4]
  let S3 := S2 ++ [Cell.lst hl]
  let S4 := S3 ++ [Cell.lst []]
  let S5 := S4 ++ [Cell.lst [.loc S1.length, .loc S2.length, .loc S3.length]]
  let S6 := S5 ++ [Cell.dik [] []]
  let S7 := S6 ++ [Cell.lst z4]
  let S8 := S7 ++ [Cell.lst []]
  let S9 := S8 ++ [Cell.lst []]
  let S10 := S9 ++ [Cell.lst [.loc S6.length, .loc S7.length, .loc S8.length]]
  let S11 := S10 ++ [Cell.lst [.loc S4.length, .loc S9.length]]
  let S12 := S11 ++ [Cell.lst [.int 0]]
  let S13 := S12 ++ [Cell.lst [.non]]
  let M : u_ML := ⟨n, S1.length, S2.length, S3.length, S4.length, S5.length, S6.length, S7.length, S8.length, S9.length, S10.length, S11.length, S12.length⟩
  have zE : ∀ {ρ : Ev} {S : Sto}, dPrim pLstM (aCons (dC (.int 0)) (aCons (dC (.int 0)) (aCons (dC (.int 0)) (aCons (dC (.int 0)) aNil)))) ρ S = some (.loc S.length, S ++ [Cell.lst z4]) := fun {ρ S} => rfl
  have nE : ∀ {ρ : Ev} {S : Sto}, dPrim pLstM aNil ρ S = some (.loc S.length, S ++ [Cell.lst []]) := fun {ρ S} => rfl
  have hE : dLcM (iSeq (dVar 1)) (gSet 4) (dC (.bl true)) (dPrim pTup (aCons (dVar 4) (aCons (dC (.int 0)) aNil))) [4] (N hm o y4 y5 y6 y7 y8) S2 = some (.loc S2.length, S3) := by
    refine (dLcM_of (iSeqT_of (xs := Z.beg.map .str) rfl) (lc_all (D := DV.str) (E := fun b => bvD (b, 0)) (K := Z.beg) fun b _ => ⟨N hm o (some (.str b)) y5 y6 y7 y8, rfl, rfl, rfl⟩) (size_ok (by rw [List.length_map]; omega))).trans ?_
    show some (DV.loc S2.length, S2 ++ [Cell.lst _]) = some (DV.loc S2.length, S2 ++ [Cell.lst ((Z.beg.map fun x => (x, (0 : Int))).map bvD)])
    rw [List.map_map]; rfl
  have l3 : ∀ {a b c : DV} {S : Sto}, pLstM [a, b, c] S = some (.loc S.length, S ++ [Cell.lst [a, b, c]]) := fun {a b c S} => by rw [v_pLstM, if_pos (size_ok (by show 3 ≤ _; omega))]
  have l2 : ∀ {a b : DV} {S : Sto}, pLstM [a, b] S = some (.loc S.length, S ++ [Cell.lst [a, b]]) := fun {a b S} => by rw [v_pLstM, if_pos (size_ok (by show 2 ≤ _; omega))]
  have s3 : dSet 3 (dPrim pLstM (aCons (dPrim pLstM (aCons (dC (.int 0)) (aCons (dC (.int 0)) (aCons (dC (.int 0)) (aCons (dC (.int 0)) aNil))))) (aCons (dLcM (iSeq (dVar 1)) (gSet 4) (dC (.bl true)) (dPrim pTup (aCons (dVar 4) (aCons (dC (.int 0)) aNil))) [4]) (aCons (dPrim pLstM aNil) aNil)))) (N hm o y4 y5 y6 y7 y8) S1 = some (.nx (N hm (some (.loc S4.length)) y4 y5 y6 y7 y8) S5) :=
    set_of (prim_of (args3 zE hE nE) l3)
  let ρ := N hm (some (.loc S4.length)) y4 y5 y6 y7 y8
  have pE : dPrim pLstM (aCons (dVar 3) (aCons (dPrim pLstM (aCons (dPrim pLstM (aCons (dC (.int 0)) (aCons (dC (.int 0)) (aCons (dC (.int 0)) (aCons (dC (.int 0)) aNil))))) (aCons (dPrim pLstM aNil) (aCons (dPrim pLstM aNil) aNil)))) aNil)) ρ S6 = some (.loc S10.length, S11) :=
    prim_of (args2 (x := .loc S4.length) (S1 := S6) rfl (prim_of (args3 zE nE nE) l3)) l2
  have dE : dDisp (((dC (.str "home")), (dVar 2)) :: ((dC (.str "pages")), (dPrim pLstM (aCons (dVar 3) (aCons (dPrim pLstM (aCons (dPrim pLstM (aCons (dC (.int 0)) (aCons (dC (.int 0)) (aCons (dC (.int 0)) (aCons (dC (.int 0)) aNil))))) (aCons (dPrim pLstM aNil) (aCons (dPrim pLstM aNil) aNil)))) aNil)))) :: ((dC (.str "face")), (dPrim pLstM (aCons (dC (.int 0)) aNil))) :: ((dC (.str "answer")), (dPrim pLstM (aCons (dC .non) aNil))) :: []) ρ S5 = some (.loc S5.length, S13.set S5.length (dkS u_lcD (u_mK M))) := by
    have ps : dPairs (((dC (.str "home")), (dVar 2)) :: ((dC (.str "pages")), (dPrim pLstM (aCons (dVar 3) (aCons (dPrim pLstM (aCons (dPrim pLstM (aCons (dC (.int 0)) (aCons (dC (.int 0)) (aCons (dC (.int 0)) (aCons (dC (.int 0)) aNil))))) (aCons (dPrim pLstM aNil) (aCons (dPrim pLstM aNil) aNil)))) aNil)))) :: ((dC (.str "face")), (dPrim pLstM (aCons (dC (.int 0)) aNil))) :: ((dC (.str "answer")), (dPrim pLstM (aCons (dC .non) aNil))) :: []) ρ S6 = some ([(.str "home", .loc n), (.str "pages", .loc S10.length), (.str "face", .loc S11.length), (.str "answer", .loc S12.length)], S13) := by
      have f1 : dPrim pLstM (aCons (dC (.int 0)) aNil) ρ S11 = some (.loc S11.length, S12) := rfl
      have f2 : dPrim pLstM (aCons (dC .non) aNil) ρ S12 = some (.loc S12.length, S13) := rfl
      have v2 : dVar 2 ρ S6 = some (.loc n, S6) := rfl
      simp only [dPairs, v_c, v2, pE, f1, f2]
    have at_o : S13[S5.length]? = some (Cell.dik [] []) := by
      show (S5 ++ [_] ++ [_] ++ [_] ++ [_] ++ [_] ++ [_] ++ [_] ++ [_])[S5.length]? = _
      simp only [List.append_assoc]
      rw [List.getElem?_append_right (Nat.le_refl _), Nat.sub_self]; rfl
    have kk : keysD [DV.str "home", .str "pages", .str "face", .str "answer"] = some [kS "home", kS "pages", kS "face", kS "answer"] := rfl
    unfold dDisp
    rw [show S5 ++ [Cell.dik [] []] = S6 from rfl, ps]
    simp only [at_o, List.map_cons, List.map_nil, kk]
    rw [if_pos (by decide +kernel)]
    rfl
  -- the cells
  have T1 : Stp S [] S1 [(n, dkP intD Z.homeL)] := Stp.more atS_nil (dkP intD Z.homeL)
  have T2 := Stp.more T1.at_ (Cell.lst z4)
  have T3 := Stp.more T2.at_ (Cell.lst hl)
  have T4 := Stp.more T3.at_ (Cell.lst [])
  have T5 := Stp.more T4.at_ (Cell.lst [.loc S1.length, .loc S2.length, .loc S3.length])
  have T6 := Stp.more T5.at_ (Cell.dik [] [])
  have T7 := Stp.more T6.at_ (Cell.lst z4)
  have T8 := Stp.more T7.at_ (Cell.lst [])
  have T9 := Stp.more T8.at_ (Cell.lst [])
  have T10 := Stp.more T9.at_ (Cell.lst [.loc S6.length, .loc S7.length, .loc S8.length])
  have T11 := Stp.more T10.at_ (Cell.lst [.loc S4.length, .loc S9.length])
  have T12 := Stp.more T11.at_ (Cell.lst [.int 0])
  have T13 := Stp.more T12.at_ (Cell.lst [.non])
  have T14 := Stp.set T13.at_ 5 (a := S5.length) (c := Cell.dik [] []) (dkS u_lcD (u_mK M))
  refine ⟨_, M, run_rt rfl ((seq_nx s2).trans ((seq_nx (for_of (iSeqT_of (bin_of (x := Z.PD) (y := .int 0) rfl rfl rfl)) e3)).trans ((seq_nx (for_of (iSeqT_of (bin_of (x := Z.PD) (y := .int 1) rfl rfl rfl)) e4)).trans ((seq_nx s3).trans (ret_of dE))))), ?_⟩
  exact (((((((((((((T1.trans T2).trans T3).trans T4).trans T5).trans T6).trans T7).trans T8).trans T9).trans T10).trans T11).trans T12).trans T13).trans T14).of_eq rfl
end Lk61

namespace Lk61
open PySem PySem.Spec PyProof.Rows L2 Dn
/-! ### what a store tells -/
theorem u_left {S : Sto} {l m : Cs} (A : AtS S (l ++ m)) : AtS S l := ⟨by have := A.nd; rw [List.map_append] at this; exact (List.nodup_append.mp this).1, fun p hp => A.get p (List.mem_append_left _ hp)⟩
theorem u_right {S : Sto} {l m : Cs} (A : AtS S (l ++ m)) : AtS S m := ⟨by have := A.nd; rw [List.map_append] at this; exact (List.nodup_append.mp this).2.1, fun p hp => A.get p (List.mem_append_right _ hp)⟩
theorem u_apart {S : Sto} {l m : Cs} (A : AtS S (l ++ m)) : ∀ a ∈ l.map (·.1), a ∉ m.map (·.1) := fun a ha hb => by
  have := A.nd
  rw [List.map_append] at this
  exact (List.nodup_append.mp this).2.2 a ha a hb rfl
abbrev u_C (Z : Hst) (L : HL) (M : u_ML) (h h' : Hs) : Cs := stC Z L h ++ u_mC M h'
section
variable {Z : Hst} {S S0 : Sto} {L : HL} {M : u_ML} {h : Hs} {ρ : List (Option DV)} {f g e : DE}
theorem u_key (A : AtS S (u_mC M h)) {key : Str} {n : Nat} (hf : f ρ S0 = some (.loc M.o, S)) (hk : agt (u_mK M) key = some n) : dBin pIx f (dC (.str key)) ρ S0 = some (.loc n, S) :=
  bin_of hf rfl (ix_of (asL_ndik (A.at 5)) (by rw [getD_S (f := u_lcD) (l := u_mK M) (A.at 5), hk]; rfl))
theorem u_kh : agt (u_mK M) "home" = some M.hm := by rfl
theorem u_kp : agt (u_mK M) "pages" = some M.pg := by rfl
theorem u_kf : agt (u_mK M) "face" = some M.fc := by rfl
theorem u_ka : agt (u_mK M) "answer" = some M.an := by rfl
theorem u_home (A : AtS S (u_mC M h)) {p : Pl} {v : Int} (hp : agt h.home p = some v) (hf : f ρ S0 = some (.loc M.o, S)) (he : e ρ S = some (plD p, S)) : dBin pIx (dBin pIx f (dC (.str "home"))) e ρ S0 = some (.int v, S) :=
  bin_of (u_key A hf u_kh) he (ix_of (asL_ndit (A.at 0)) (by rw [getD_P (f := intD) (l := h.home) (A.at 0), hp]; rfl))
def u_ML.q (M : u_ML) (b : Bool) : Nat := if b = true then M.q1 else M.q0
def u_ML.d (M : u_ML) (b : Bool) : Nat := if b = true then M.d1 else M.d0
def u_ML.b (M : u_ML) (b : Bool) : Nat := if b = true then M.b1 else M.b0
def u_ML.t (M : u_ML) (b : Bool) : Nat := if b = true then M.t1 else M.t0
theorem u_at_q (A : AtS S (u_mC M h)) (b : Bool) : S[M.q b]? = some (.lst [.loc (M.d b), .loc (M.b b), .loc (M.t b)]) := by
  cases b
  · exact A.at 4
  · exact A.at 9
theorem u_at_d (A : AtS S (u_mC M h)) (b : Bool) : S[M.d b]? = some (.lst (u_hd (h.page b))) := by
  cases b
  · exact A.at 1
  · exact A.at 6
theorem u_at_b (A : AtS S (u_mC M h)) (b : Bool) : S[M.b b]? = some (.lst ((h.page b).held.map bvD)) := by
  cases b
  · exact A.at 2
  · exact A.at 7
theorem u_at_t (A : AtS S (u_mC M h)) (b : Bool) : S[M.t b]? = some (.lst ((h.page b).turned.map tnD)) := by
  cases b
  · exact A.at 3
  · exact A.at 8
theorem u_pages (A : AtS S (u_mC M h)) {b : Bool} (hf : f ρ S0 = some (.loc M.o, S)) (he : e ρ S = some (.int (frN b : Nat), S)) : dBin pIx (dBin pIx f (dC (.str "pages"))) e ρ S0 = some (.loc (M.q b), S) := by
  refine bin_of (u_key A hf u_kp) he (ix_loc (A.at 10) (atD_nat ?_))
  cases b <;> rfl
theorem u_face (A : AtS S (u_mC M h)) (hf : f ρ S0 = some (.loc M.o, S)) : dBin pIx (dBin pIx f (dC (.str "face"))) (dC (.int 0)) ρ S0 = some (.int (frN h.front : Nat), S) :=
  bin_of (u_key A hf u_kf) (y := .int (0 : Nat)) rfl (ix_loc (A.at 11) (atD_nat rfl))
theorem u_answer (A : AtS S (u_mC M h)) (hf : f ρ S0 = some (.loc M.o, S)) : dBin pIx (dBin pIx f (dC (.str "answer"))) (dC (.int 0)) ρ S0 = some (optI h.fin, S) :=
  bin_of (u_key A hf u_ka) (y := .int (0 : Nat)) rfl (ix_loc (A.at 12) (atD_nat rfl))
/-! the store's methods that tell -/
theorem u_scell (A : AtS S (stC Z L h)) {c : Str} {v : Int} (hp : agt h.home (c, 0) = some v) : F_Store_cell [.loc L.st, .str c] S = some (.int v, S) :=
  run_rt rfl (ret_of (bin_of (x := .loc L.hm) (y := plD (c, 0)) (s_f A rfl) rfl (ix_of (asL_ndit (ss_hm A)) (by rw [getD_P (f := intD) (l := h.home) (ss_hm A), hp]; rfl))))
theorem u_sshelf (A : AtS S (stC Z L h)) {s : Str} {n : Nat} {val : Nat → Int} (hz : n ≤ 1000) (hs : agt Z.szL s = some ((n : Nat) : Int)) (hv : ∀ k, k < n → agt h.home (s, k) = some (val k)) :
    F_Store_shelf [.loc L.st, .str s] S = some (.loc S.length, S ++ [.lst ((List.range n).map fun k => DV.int (val k))]) := by
  let N (x : Option DV) : List (Option DV) := [some (.loc L.st), some (.str s), x]
  refine run_rt rfl (ret_of (dLcM_of (vs := [2]) (ρ := N none) (rgN_of (n := n) (bin_of (x := .loc L.sz) (y := .str s) (s_f A rfl) rfl (ix_of (asL_ndik (A.at 2)) (by rw [getD_S (f := intD) (l := Z.szL) (A.at 2), hs]; rfl))) (by omega)) (lc_all (D := fun (i : Nat) => DV.int i) (E := fun k => DV.int (val k)) (K := List.range n) fun k hk => ⟨N (some (.int (k : Nat))), rfl, rfl, ?_⟩) (size_ok (by rw [List.length_map, List.length_range]; omega))))
  exact bin_of (x := .loc L.hm) (y := plD (s, k)) (s_f A rfl) rfl (ix_of (asL_ndit (ss_hm A)) (by rw [getD_P (f := intD) (l := h.home) (ss_hm A), hv k (List.mem_range.mp hk)]; rfl))
theorem u_spage (A : AtS S (stC Z L h)) (b : Bool) : F_Store_page [.loc L.st, .int (frN b : Nat)] S = some (.tup (u_hd (h.page b) ++ [.loc S.length, .loc (S ++ [Cell.lst ((h.page b).held.map bvD)]).length]), S ++ [Cell.lst ((h.page b).held.map bvD)] ++ [Cell.lst ((h.page b).turned.map tnD)]) := by
  let ρ (x : Option DV) : List (Option DV) := [some (.loc L.st), some (.int (frN b : Nat)), x]
  have s2 : dSet 2 (dBin pIx (dFld AT "pages" (dVar 0)) (dVar 1)) (ρ none) S = some (.nx (ρ (some (.loc (HL.pL L b)))) S) := set_of (s_pages A rfl rfl)
  have fl : ∀ {S' : Sto} {f : Str} {d : DV}, AtS S' (stC Z L h) → (pgF (h.page b) (HL.hL L b) (HL.tL L b)).lookup f = some d → AT.contains (("Page" : Str), f) = true → dFld AT f (dVar 2) (ρ (some (.loc (HL.pL L b)))) S' = some (d, S') := fun {S' f d} A hl hT => fld_at rfl (s_at_p A b) hT hl
  have lst : ∀ {S' : Sto} {n : Nat} {xs : List DV}, S'[n]? = some (.lst xs) → pListM [.loc n] S' = some (.loc S'.length, S' ++ [.lst xs]) := fun {S' n xs} hn => by
    unfold pListM itemsD
    simp only [asL_loc hn]
  let S1 := S ++ [Cell.lst ((h.page b).held.map bvD)]
  let S2 := S1 ++ [Cell.lst ((h.page b).turned.map tnD)]
  have A1 : AtS S1 (stC Z L h) := (Stp.junk A (T := [Cell.lst ((h.page b).held.map bvD)]) rfl).at_
  refine run_rt rfl ((seq_nx s2).trans (ret_of (bin_of (x := .tup (u_hd (h.page b))) (y := .tup [.loc S.length, .loc S1.length]) (S2 := S2) (fl A rfl rfl) (prim_of (args2 (prim_of (args1 (fl A rfl rfl)) (lst (s_at_h A b))) (prim_of (args1 (fl A1 rfl rfl)) (lst (s_at_t A1 b)))) rfl) ?_)))
  rw [v_addT, if_pos (size_ok (by show 4 + 2 ≤ _; omega))]
/-- what is in order of a store -/
structure u_Ok (Z : Hst) (h : Hs) (T : Nat) : Prop where
  hk : h.home.map (·.1) = Z.homeK
  z : ∀ b, (h.page b).held.length ≤ 10 + T ∧ (h.page b).turned.length ≤ 10 + T
/-- the law's look at a store -/
abbrev u_E (L : HL) (Z : Hst) (M : u_ML) (x3 x4 x5 x6 x7 x8 x9 x10 x11 x12 x13 x14 : Option DV) : List (Option DV) := [some (.loc L.st), some Z.PD, some (.loc M.o), x3, x4, x5, x6, x7, x8, x9, x10, x11, x12, x13, x14]
abbrev u_b1 : DS := dIfS (dNot (dPrim (cP (pureOf F_law_same) []) (aCons (dMeth "Store" "cell" F_Store_cell [] (dVar 0) (aCons (dVar 4) aNil)) (aCons (dBin pIx (dBin pIx (dVar 2) (dC (.str "home"))) (dPrim pTup (aCons (dVar 4) (aCons (dC (.int 0)) aNil)))) aNil)))) (dRet (dC (.bl false))) dNext
abbrev u_b2 : DS := dSeq (dSet 8 (dLc (iRange1 (aCons (dVar 7) aNil)) (gSet 10) (dC (.bl true)) (dBin pIx (dBin pIx (dVar 2) (dC (.str "home"))) (dPrim pTup (aCons (dVar 4) (aCons (dVar 10) aNil)))) [10]))
  (dSeq (dSet 9 (dMeth "Store" "shelf" F_Store_shelf [] (dVar 0) (aCons (dVar 4) aNil)))
  (dSeq (dIfS (dNot (dPrim (cP (pureOf F_law_same) []) (aCons (dVar 9) (aCons (dVar 8) aNil)))) (dRet (dC (.bl false))) dNext)
  (dExpr (dMt pClear (dVar 9) aNil))))
abbrev u_b3 : DS := dIfS (dNot (dPrim (cP (pureOf F_law_same) []) (aCons (dMeth "Store" "get_home" F_Store_get_home [] (dVar 0) (aCons (dVar 4) (aCons (dVar 10) aNil))) (aCons (dBin pIx (dBin pIx (dVar 2) (dC (.str "home"))) (dPrim pTup (aCons (dVar 4) (aCons (dVar 10) aNil)))) aNil)))) (dRet (dC (.bl false))) dNext
abbrev u_b4 : DS := dSeq (dAsg (dBin pIx (dBin pIx (dVar 2) (dC (.str "pages"))) (dVar 3)) (gLstD 3 (gsCons (gSet 12) (gsCons (gSet 13) (gsCons (gSet 14) gsNil)))))
  (dSeq (dSet 11 (dMeth "Store" "page" F_Store_page [] (dVar 0) (aCons (dVar 3) aNil)))
  (dSeq (dIfS (dNot (dPrim (cP (pureOf F_law_same) []) (aCons (dVar 11) (aCons (dBin pAdd (dPrim pTuple (aCons (dVar 12) aNil)) (dPrim pTup (aCons (dVar 13) (aCons (dVar 14) aNil)))) aNil)))) (dRet (dC (.bl false))) dNext)
  (dSeq (dExpr (dMt pAppend (dBin pIx (dVar 11) (dC (.int 4))) (aCons (dPrim pTup (aCons (dC (.str "zz")) (aCons (dC (.int 1)) aNil))) aNil)))
  (dExpr (dMt pClear (dBin pIx (dVar 11) (dC (.int 5))) aNil)))))
theorem u_clear {f : DE} {ρ : Ev} {S : Sto} {n : Nat} {xs : List DV} (h : f ρ S = some (.loc n, S)) (hn : S[n]? = some (.lst xs)) : dExpr (dMt pClear f aNil) ρ S = some (.nx ρ (S.set n (.lst []))) := by
  rw [v_expr, v_mt, h]
  simp only [v_nil]
  simp only [asL_loc hn]
  unfold pClear
  simp only [hn]
theorem u_lenget {S : Sto} {c : Cell} : (S ++ [c])[S.length]? = some c := by
  rw [List.getElem?_append_right (Nat.le_refl _), Nat.sub_self]; rfl
theorem u_lenset {S : Sto} {c c' : Cell} : (S ++ [c]).set S.length c' = S ++ [c'] := by
  rw [List.set_append_right _ _ (Nat.le_refl _), Nat.sub_self]; rfl
/-- the cells -/
theorem u_told1 (A : AtS S (u_C Z L M h h)) (x3 x7 x8 x9 x10 x11 x12 x13 x14 : Option DV) : ∀ (l : List Thing), (∀ c ∈ l, ∃ v, agt h.home (c.1, 0) = some v) → ∀ x4 x5 x6, ∃ y4 y5 y6, forL (gTupD 3 (gsCons (gSet 4) (gsCons (gSet 5) (gsCons (gSet 6) gsNil)))) u_b1 (l.map thD) (u_E L Z M x3 x4 x5 x6 x7 x8 x9 x10 x11 x12 x13 x14) S = some (.nx (u_E L Z M x3 y4 y5 y6 x7 x8 x9 x10 x11 x12 x13 x14) S)
  | [], _, x4, x5, x6 => ⟨x4, x5, x6, rfl⟩
  | c :: l, hl, x4, x5, x6 => by
    obtain ⟨v, hv⟩ := hl c List.mem_cons_self
    obtain ⟨y4, y5, y6, e⟩ := u_told1 A x3 x7 x8 x9 x10 x11 x12 x13 x14 l (fun c hc => hl c (List.mem_cons_of_mem _ hc)) (some (.str c.1)) (some (.int c.2.1)) (some (.bl c.2.2))
    let ρ := u_E L Z M x3 (some (.str c.1)) (some (.int c.2.1)) (some (.bl c.2.2)) x7 x8 x9 x10 x11 x12 x13 x14
    have k := u_call (f := dMeth "Store" "cell" F_Store_cell [] (dVar 0) (aCons (dVar 4) aNil)) (ρ := ρ) (S := S) (s_m (u_left A) rfl (args1 (x := .str c.1) rfl) (u_scell (u_left A) hv)) (u_home (f := dVar 2) (e := dPrim pTup (aCons (dVar 4) (aCons (dC (.int 0)) aNil))) (ρ := ρ) (u_right A) (p := (c.1, 0)) hv rfl rfl) (x' := .int v) (y' := .int v) rfl rfl (u_int v)
    have b : u_b1 ρ S = some (.nx ρ S) := (ifS_f (not_of k)).trans rfl
    refine ⟨y4, y5, y6, ?_⟩
    rw [List.map_cons]
    unfold forL
    show (match u_b1 ρ S with | some (.nx ρ2 S2) => _ | some (.ct ρ2 S2) => _ | some (.bk ρ2 S2) => _ | some (.rt v S2) => _ | none => _) = _
    rw [b]
    exact e
/-- the shelves -/
theorem u_told2 (x3 x5 x11 x12 x13 x14 : Option DV) : ∀ (l : List Thing), (∀ s ∈ l, ∃ (n : Nat) (val : Nat → Int), n ≤ 100 ∧ s.2.1 = (n : Nat) ∧ agt Z.szL s.1 = some ((n : Nat) : Int) ∧ ∀ k, k < n → agt h.home (s.1, k) = some (val k)) → ∀ (S : Sto) (x4 x6 x7 x8 x9 x10 : Option DV), AtS S (u_C Z L M h h) →
    ∃ S' y4 y6 y7 y8 y9 y10, forL (gTupD 3 (gsCons (gSet 4) (gsCons (gSet 7) (gsCons (gSet 6) gsNil)))) u_b2 (l.map thD) (u_E L Z M x3 x4 x5 x6 x7 x8 x9 x10 x11 x12 x13 x14) S = some (.nx (u_E L Z M x3 y4 x5 y6 y7 y8 y9 y10 x11 x12 x13 x14) S') ∧ Stp S (u_C Z L M h h) S' (u_C Z L M h h)
  | [], _, S, x4, x6, x7, x8, x9, x10, A => ⟨S, x4, x6, x7, x8, x9, x10, rfl, Stp.refl A⟩
  | s :: l, hl, S, x4, x6, x7, x8, x9, x10, A => by
    obtain ⟨n, val, n1, e0, hs, hv⟩ := hl s List.mem_cons_self
    let vl : List DV := (List.range n).map fun k => DV.int (val k)
    let N (x8 x9 x10 : Option DV) := u_E L Z M x3 (some (.str s.1)) x5 (some (.bl s.2.2)) (some (.int (n : Nat))) x8 x9 x10 x11 x12 x13 x14
    have s8 : dSet 8 (dLc (iRange1 (aCons (dVar 7) aNil)) (gSet 10) (dC (.bl true)) (dBin pIx (dBin pIx (dVar 2) (dC (.str "home"))) (dPrim pTup (aCons (dVar 4) (aCons (dVar 10) aNil)))) [10]) (N x8 x9 x10) S = some (.nx (N (some (.lst .own vl)) x9 x10) S) :=
      set_of (dLc_of (vs := [10]) (rgN_of (n := n) rfl (by omega)) (lc_all (D := fun (i : Nat) => DV.int i) (E := fun k => DV.int (val k)) (K := List.range n) fun k hk => ⟨N x8 x9 (some (.int (k : Nat))), rfl, rfl, u_home (f := dVar 2) (u_right A) (p := (s.1, k)) (hv k (List.mem_range.mp hk)) rfl rfl⟩) (size_ok (by rw [List.length_map, List.length_range]; omega)))
    let S1 := S ++ [Cell.lst vl]
    let j9 : Option DV := some (.loc S.length)
    have s9 : dSet 9 (dMeth "Store" "shelf" F_Store_shelf [] (dVar 0) (aCons (dVar 4) aNil)) (N (some (.lst .own vl)) x9 x10) S = some (.nx (N (some (.lst .own vl)) j9 x10) S1) := set_of (s_m (u_left A) rfl (args1 (x := .str s.1) rfl) (u_sshelf (u_left A) (by omega) hs hv))
    have hn : S1[S.length]? = some (Cell.lst vl) := u_lenget
    have pl : plainL vl = true := plainL_iff.mpr fun d hd => by
      obtain ⟨k, _, rfl⟩ := List.mem_map.mp hd; rfl
    have k := u_call (f := dVar 9) (g := dVar 8) (ρ := N (some (.lst .own vl)) j9 x10) (S := S1) (x := .loc S.length) (y := .lst .own vl) rfl rfl (cpD_loc hn pl) (cpD_plain (by rw [plain_own]; exact pl)) (u_lst (by rw [List.length_map, List.length_range]; omega) (u_map (fun k => u_int (val k)) _))
    have c : dExpr (dMt pClear (dVar 9) aNil) (N (some (.lst .own vl)) j9 x10) S1 = some (.nx (N (some (.lst .own vl)) j9 x10) (S ++ [Cell.lst []])) := by
      rw [u_clear (n := S.length) rfl hn, u_lenset]
    have T1 : Stp S (u_C Z L M h h) (S ++ [Cell.lst []]) (u_C Z L M h h) := Stp.junk A rfl
    have b : u_b2 (N x8 x9 x10) S = some (.nx (N (some (.lst .own vl)) j9 x10) (S ++ [Cell.lst []])) := (seq_nx s8).trans ((seq_nx s9).trans ((seq_nx ((ifS_f (not_of k)).trans rfl)).trans c))
    obtain ⟨S', y4, y6, y7, y8, y9, y10, e, T⟩ := u_told2 x3 x5 x11 x12 x13 x14 l (fun c hc => hl c (List.mem_cons_of_mem _ hc)) (S ++ [Cell.lst []]) (some (.str s.1)) (some (.bl s.2.2)) (some (.int (n : Nat))) (some (.lst .own vl)) j9 x10 T1.at_
    refine ⟨S', y4, y6, y7, y8, y9, y10, ?_, T1.trans T⟩
    rw [List.map_cons]
    unfold forL
    show (match u_b2 (u_E L Z M x3 (some (.str s.1)) x5 (some (.bl s.2.2)) (some (.int s.2.1)) x8 x9 x10 x11 x12 x13 x14) S with | some (.nx ρ2 S2) => _ | some (.ct ρ2 S2) => _ | some (.bk ρ2 S2) => _ | some (.rt v S2) => _ | none => _) = _
    rw [e0, b]
    exact e
/-- home -/
theorem u_told3 (A : AtS S (u_C Z L M h h)) (nl : S.all notLok = true) (nd : (h.home.map (·.1)).Nodup) (x3 x4 x5 x6 x7 x8 x9 x10 x11 x12 x13 x14 : Option DV) :
    ∃ y4 y10, dForK (dBin pIx (dVar 2) (dC (.str "home"))) (gTupD 2 (gsCons (gSet 4) (gsCons (gSet 10) gsNil))) u_b3 (u_E L Z M x3 x4 x5 x6 x7 x8 x9 x10 x11 x12 x13 x14) S = some (.nx (u_E L Z M x3 y4 x5 x6 x7 x8 x9 y10 x11 x12 x13 x14) S) := by
  let hl := h.home
  let n := M.hm
  let ks : List (List Key) := hl.map fun p => kP p.1
  let vs : List DV := hl.map fun p => intD p.2
  let SL := S.set n (.lokt ks vs)
  have Am := u_right A
  have hn : S[n]? = some (dkP intD hl) := Am.at 0
  have nlt : n < S.length := (List.getElem?_eq_some_iff.mp hn).1
  have lo : SL[n]? = some (.lokt ks vs) := List.getElem?_set_self nlt
  have AL : AtS SL (stC Z L h) := (u_left A).ext fun a ha => List.getElem?_set_ne fun z => u_apart A a ha (by rw [← z]; exact List.mem_cons_self)
  have ne : n ≠ M.o := Am.ne 0 5
  have oL : SL[M.o]? = some (dkS u_lcD (u_mK M)) := (List.getElem?_set_ne ne).trans (Am.at 5)
  let N (x4 x10 : Option DV) := u_E L Z M x3 x4 x5 x6 x7 x8 x9 x10 x11 x12 x13 x14
  have hE : ∀ {x4 x10 : Option DV}, dBin pIx (dVar 2) (dC (.str "home")) (N x4 x10) SL = some (.loc n, SL) := fun {x4 x10} => bin_of (x := .loc M.o) rfl rfl (ix_of (asL_ndik oL) (by rw [getD_S (f := u_lcD) (l := u_mK M) oL, u_kh]; rfl))
  have it : iKeyL (dBin pIx (dVar 2) (dC (.str "home"))) (N x4 x10) SL = some (hl.map fun p => plD p.1, SL) := by
    unfold iKeyL
    rw [hE]
    simp only [lo]
    show some (((hl.map fun p => kP p.1).map fun k => DV.tup (k.map kdv)), SL) = _
    rw [List.map_map]
    rfl
  have key : ∀ {l : List (Pl × Int)}, (l.map (·.1)).Nodup → ∀ q ∈ l, agt l q.1 = some q.2 := fun {l} => by
    induction l with
    | nil => intro _ q hq; cases hq
    | cons x l ih =>
      intro h2 q hq
      rw [List.map_cons, List.nodup_cons] at h2
      rw [agt_cons]
      rcases List.mem_cons.mp hq with e | e
      · rw [← e, if_pos rfl]
      · rw [if_neg fun z => h2.1 (by rw [z]; exact List.mem_map_of_mem e)]
        exact ih h2.2 q e
  have loop : ∀ (l : List (Pl × Int)), (∀ q ∈ l, q ∈ hl) → ∀ x4 x10, ∃ y4 y10, forL (gTupD 2 (gsCons (gSet 4) (gsCons (gSet 10) gsNil))) u_b3 (l.map fun p => plD p.1) (N x4 x10) SL = some (.nx (N y4 y10) SL) := fun l => by
    induction l with
    | nil => intro _ x4 x10; exact ⟨x4, x10, rfl⟩
    | cons q l ih =>
      intro hl2 x4 x10
      have hq := hl2 q List.mem_cons_self
      have hv := key nd q hq
      obtain ⟨y4, y10, e⟩ := ih (fun x hx => hl2 x (List.mem_cons_of_mem _ hx)) (some (.str q.1.1)) (some (.int (q.1.2 : Nat)))
      refine ⟨y4, y10, ?_⟩
      let ρ := N (some (.str q.1.1)) (some (.int (q.1.2 : Nat)))
      have e1 : dMeth "Store" "get_home" F_Store_get_home [] (dVar 0) (aCons (dVar 4) (aCons (dVar 10) aNil)) ρ SL = some (.int q.2, SL) := s_m AL rfl (args2 (x := .str q.1.1) (y := .int (q.1.2 : Nat)) rfl rfl) (s_home AL hv)
      have e2 : dBin pIx (dBin pIx (dVar 2) (dC (.str "home"))) (dPrim pTup (aCons (dVar 4) (aCons (dVar 10) aNil))) ρ SL = some (.int q.2, SL) := by
        refine bin_of (x := .loc n) (y := plD q.1) hE rfl (ix_of (asL_nlokt lo) ?_)
        rw [getD_PL (f := intD) (l := hl) (x := q.1) lo, hv]
        rfl
      have b : u_b3 ρ SL = some (.nx ρ SL) := (ifS_f (not_of (u_call e1 e2 (x' := .int q.2) (y' := .int q.2) rfl rfl (u_int q.2)))).trans rfl
      rw [List.map_cons]
      unfold forL
      show (match u_b3 ρ SL with | some (.nx ρ2 S2) => _ | some (.ct ρ2 S2) => _ | some (.bk ρ2 S2) => _ | some (.rt v S2) => _ | none => _) = _
      rw [b]
      exact e
  obtain ⟨y4, y10, e⟩ := loop hl (fun _ h => h) x4 x10
  refine ⟨y4, y10, ?_⟩
  have inner : dFor (iKeyL (dBin pIx (dVar 2) (dC (.str "home")))) (gTupD 2 (gsCons (gSet 4) (gsCons (gSet 10) gsNil))) u_b3 (N x4 x10) SL = some (.nx (N y4 y10) SL) := for_of it e
  have hS : dBin pIx (dVar 2) (dC (.str "home")) (N x4 x10) S = some (.loc n, S) := u_key Am rfl u_kh
  unfold dForK
  rw [show dBin pIx (dVar 2) (dC (.str "home")) (u_E L Z M x3 x4 x5 x6 x7 x8 x9 x10 x11 x12 x13 x14) S = some (.loc n, S) from hS]
  have e0 := hn
  unfold dkP at e0
  simp only [e0]
  rw [show S.set n (.lokt (hl.map fun p => kP p.1) (hl.map fun p => intD p.2)) = SL from rfl, inner]
  simp only [unlockO, unlockS, lo]
  have al : (SL.set n .gone).all notLok = true := by
    show ((S.set n _).set n .gone).all notLok = true
    rw [List.set_set]
    exact all_set nl rfl
  rw [if_pos al]
  have back : SL.set n (.dit ks vs) = S := by
    show (S.set n _).set n (.dit ks vs) = S
    rw [List.set_set]
    obtain ⟨h1, h2⟩ := List.getElem?_eq_some_iff.mp hn
    have : (Cell.dit ks vs) = S[n] := h2.symm
    rw [this, List.set_getElem_self]
  rw [back]
/-- a page -/
theorem u_told4 (A : AtS S (u_C Z L M h h)) (hz : ∀ b, (h.page b).held.length ≤ 500 ∧ (h.page b).turned.length ≤ 500) (b : Bool) (x4 x5 x6 x7 x8 x9 x10 x11 x12 x13 x14 : Option DV) :
    ∃ S' y11 y12 y13 y14, u_b4 (u_E L Z M (some (.int (frN b : Nat))) x4 x5 x6 x7 x8 x9 x10 x11 x12 x13 x14) S = some (.nx (u_E L Z M (some (.int (frN b : Nat))) x4 x5 x6 x7 x8 x9 x10 y11 y12 y13 y14) S') ∧ Stp S (u_C Z L M h h) S' (u_C Z L M h h) := by
  let N (x11 x12 x13 x14 : Option DV) := u_E L Z M (some (.int (frN b : Nat))) x4 x5 x6 x7 x8 x9 x10 x11 x12 x13 x14
  have Am := u_right A
  obtain ⟨hz1, hz2⟩ := hz b
  let j12 : Option DV := some (.loc (M.d b))
  let j13 : Option DV := some (.loc (M.b b))
  let j14 : Option DV := some (.loc (M.t b))
  have s1 : dAsg (dBin pIx (dBin pIx (dVar 2) (dC (.str "pages"))) (dVar 3)) (gLstD 3 (gsCons (gSet 12) (gsCons (gSet 13) (gsCons (gSet 14) gsNil)))) (N x11 x12 x13 x14) S = some (.nx (N x11 j12 j13 j14) S) := by
    unfold dAsg
    rw [u_pages (f := dVar 2) (e := dVar 3) (b := b) Am rfl rfl]
    show (match (match asL S (.loc (M.q b)) with | some ds => _ | none => none) with | some (ρ2, S2) => some (Out.nx ρ2 S2) | none => none) = _
    rw [asL_loc (u_at_q Am b)]
    rfl
  let hd := u_hd (h.page b)
  let hl := (h.page b).held.map bvD
  let tl := (h.page b).turned.map tnD
  let S1 := S ++ [Cell.lst hl]
  let S2 := S1 ++ [Cell.lst tl]
  let PG : DV := .tup (hd ++ [.loc S.length, .loc S1.length])
  let j11 : Option DV := some PG
  have s2 : dSet 11 (dMeth "Store" "page" F_Store_page [] (dVar 0) (aCons (dVar 3) aNil)) (N x11 j12 j13 j14) S = some (.nx (N j11 j12 j13 j14) S2) := set_of (s_m (u_left A) rfl (args1 (x := .int (frN b : Nat)) rfl) (u_spage (u_left A) b))
  have T2 : Stp S (u_C Z L M h h) S2 (u_C Z L M h h) := (Stp.junk A (T := [Cell.lst hl]) rfl).trans (Stp.junk (Stp.junk A (T := [Cell.lst hl]) rfl).at_ (T := [Cell.lst tl]) rfl)
  have A2 := u_right T2.at_
  have h1 : S2[S.length]? = some (Cell.lst hl) := by
    show (S1 ++ _)[S.length]? = _
    rw [List.getElem?_append_left (by show _ < (S ++ _).length; rw [List.length_append]; exact Nat.lt_succ_self _)]
    exact u_lenget
  have h2 : S2[S1.length]? = some (Cell.lst tl) := u_lenget
  let MP : DV := .tup (hd ++ [.loc (M.b b), .loc (M.t b)])
  have e2 : dBin pAdd (dPrim pTuple (aCons (dVar 12) aNil)) (dPrim pTup (aCons (dVar 13) (aCons (dVar 14) aNil))) (N j11 j12 j13 j14) S2 = some (MP, S2) := by
    have pe : pTuple [.loc (M.d b)] S2 = some (.tup hd, S2) := by
      unfold pTuple
      simp only [asL_loc (u_at_d A2 b)]
      rfl
    refine bin_of (x := .tup hd) (y := .tup [.loc (M.b b), .loc (M.t b)]) (S1 := S2) (S2 := S2) (prim_of (args1 (x := .loc (M.d b)) rfl) pe) rfl ?_
    rw [v_addT, if_pos (size_ok (by show 4 + 2 ≤ _; omega))]
  have pb : ∀ l : List (Str × Int), plainL (l.map bvD) = true := fun l => plainL_iff.mpr fun d hd => by
    obtain ⟨q, _, rfl⟩ := List.mem_map.mp hd; rfl
  have pt : ∀ l : List (Pl × Int), plainL (l.map tnD) = true := fun l => plainL_iff.mpr fun d hd => by
    obtain ⟨q, _, rfl⟩ := List.mem_map.mp hd; rfl
  have cp : ∀ {a c : Nat}, S2[a]? = some (Cell.lst hl) → S2[c]? = some (Cell.lst tl) → cpD true S2 (.tup (hd ++ [.loc a, .loc c])) = some (.tup (hd ++ [.lst .bor hl, .lst .bor tl])) := fun {a c} ha hc => by
    have ca : cpN true (S2.length + 1) S2 a = some (.lst .bor hl) := cpD_loc ha (pb _)
    have cc : cpN true (S2.length + 1) S2 c = some (.lst .bor tl) := cpD_loc hc (pt _)
    show mapD true (cpN true (S2.length + 1) S2) (.tup [.int _, .int _, .int _, .int _, .loc a, .loc c]) = _
    simp only [mapD, mapDL, ca, cc]
    rfl
  have k := u_call (f := dVar 11) (ρ := N j11 j12 j13 j14) (S := S2) (x := PG) rfl e2 (cp h1 h2) (cp (u_at_b A2 b) (u_at_t A2 b)) (u_tup (by show 6 ≤ 1000; omega) (.cons (u_int _) (.cons (u_int _) (.cons (u_int _) (.cons (u_int _) (.cons (u_lst (by rw [List.length_map]; omega) (u_map (fun q => u_bv q) _)) (.cons (u_lst (by rw [List.length_map]; omega) (u_map (fun q => u_tn q) _)) .nil)))))))
  let S3 := S ++ [Cell.lst (hl ++ [.tup [.str "zz", .int 1]])] ++ [Cell.lst tl]
  have s4 : dExpr (dMt pAppend (dBin pIx (dVar 11) (dC (.int 4))) (aCons (dPrim pTup (aCons (dC (.str "zz")) (aCons (dC (.int 1)) aNil))) aNil)) (N j11 j12 j13 j14) S2 = some (.nx (N j11 j12 j13 j14) S3) := by
    refine (append_of (f := dBin pIx (dVar 11) (dC (.int 4))) (n := S.length) (bin_of (x := PG) (y := .int 4) rfl rfl rfl) h1 (y := .tup [.str "zz", .int 1]) rfl (by rw [List.length_map]; omega)).trans ?_
    show some (Out.nx _ ((S ++ [Cell.lst hl] ++ [Cell.lst tl]).set S.length _)) = _
    rw [List.append_assoc, List.set_append_right _ _ (Nat.le_refl _), Nat.sub_self]
    show some (Out.nx _ (S ++ ([Cell.lst (hl ++ [.tup [.str "zz", .int 1]])] ++ [Cell.lst tl]))) = _
    rw [← List.append_assoc]
  have h3 : S3[S1.length]? = some (Cell.lst tl) := by
    have : S1.length = (S ++ [Cell.lst (hl ++ [.tup [.str "zz", .int 1]])]).length := by show (S ++ _).length = _; rw [List.length_append, List.length_append]; rfl
    rw [this]
    exact u_lenget
  have s5 : dExpr (dMt pClear (dBin pIx (dVar 11) (dC (.int 5))) aNil) (N j11 j12 j13 j14) S3 = some (.nx (N j11 j12 j13 j14) (S ++ [Cell.lst (hl ++ [.tup [.str "zz", .int 1]])] ++ [Cell.lst []])) := by
    rw [u_clear (n := S1.length) (bin_of (x := PG) (y := .int 5) rfl rfl rfl) h3]
    have : S1.length = (S ++ [Cell.lst (hl ++ [.tup [.str "zz", .int 1]])]).length := by show (S ++ _).length = _; rw [List.length_append, List.length_append]; rfl
    rw [this, u_lenset]
  refine ⟨_, j11, j12, j13, j14, (seq_nx s1).trans ((seq_nx s2).trans ((seq_nx ((ifS_f (not_of k)).trans rfl)).trans ((seq_nx s4).trans s5))), ?_⟩
  exact (Stp.junk A (T := [Cell.lst (hl ++ [.tup [.str "zz", .int 1]])]) rfl).trans (Stp.junk (Stp.junk A (T := [Cell.lst (hl ++ [.tup [.str "zz", .int 1]])]) rfl).at_ (T := [Cell.lst []]) rfl)
end
end Lk61

namespace Lk61
open PySem PySem.Spec PyProof.Rows L2 Dn
/-! ### the law's look, whole -/
section
variable {Z : Hst} {S : Sto} {L : HL} {M : u_ML} {h : Hs} {T : Nat}
theorem u_has {h : Hs} {Z : Hst} (hk : h.home.map (·.1) = Z.homeK) {p : Pl} (hp : Z.IsP p) : ∃ v, agt h.home p = some v := by
  cases z : agt h.home p with
  | some v => exact ⟨v, rfl⟩
  | none =>
    have hp : p ∈ Z.homeK := hp
    rw [← hk] at hp
    rw [agt_none] at z
    rw [ahas_iff.mpr hp] at z
    cases z
structure u_Zk (Z : Hst) : Prop where
  c : ∀ c ∈ Z.cells, Z.IsP (c.1, 0)
  s : ∀ s ∈ Z.shelves, ∃ n : Nat, n ≤ 100 ∧ s.2.1 = (n : Nat) ∧ agt Z.szL s.1 = some ((n : Nat) : Int) ∧ ∀ k, k < n → Z.IsP (s.1, k)
  nd : Z.homeK.Nodup
  hz : Z.homeK.length ≤ 1000
theorem u_told (K : u_Zk Z) (O : u_Ok Z h T) (hT : T ≤ 400) (A : AtS S (u_C Z L M h h)) (nl : S.all notLok = true) : ∃ S', F_law_told [.loc L.st, Z.PD, .loc M.o] S = some (.bl true, S') ∧ Stp S (u_C Z L M h h) S' (u_C Z L M h h) := by
  let o : Option DV := none
  have hz : ∀ b, (h.page b).held.length ≤ 500 ∧ (h.page b).turned.length ≤ 500 := fun b => by have := O.z b; omega
  obtain ⟨y4, y5, y6, e1⟩ := u_told1 A o o o o o o o o o Z.cells (fun c hc => u_has O.hk (K.c c hc)) o o o
  obtain ⟨S2, z4, z6, z7, z8, z9, z10, e2, T2⟩ := u_told2 (Z := Z) (L := L) (M := M) (h := h) o y5 o o o o Z.shelves (fun s hs => by
    obtain ⟨n, n1, e0, hsz, hk⟩ := K.s s hs
    obtain ⟨val, hv⟩ := choose_lt (n := n) (P := fun k v => agt h.home (s.1, k) = some v) 0 fun k hk' => u_has O.hk (hk k hk')
    exact ⟨n, val, n1, e0, hsz, hv⟩) S y4 y6 o o o o A
  have n2 := T2.nl nl
  obtain ⟨w4, w10, e3⟩ := u_told3 T2.at_ n2 (by rw [O.hk]; exact K.nd) o z4 y5 z6 z7 z8 z9 z10 o o o o
  obtain ⟨S3, a11, a12, a13, a14, e4, T3⟩ := u_told4 T2.at_ hz false w4 y5 z6 z7 z8 z9 w10 o o o o
  obtain ⟨S4, b11, b12, b13, b14, e5, T4⟩ := u_told4 T3.at_ hz true w4 y5 z6 z7 z8 z9 w10 a11 a12 a13 a14
  have TT := (T2.trans T3).trans T4
  have A4 := T4.at_
  let E3 (x3 x11 x12 x13 x14 : Option DV) := u_E L Z M x3 w4 y5 z6 z7 z8 z9 w10 x11 x12 x13 x14
  have s4 : dFor (iRange1 (aCons (dC (.int 2)) aNil)) (gSet 3) u_b4 (E3 o o o o o) S2 = some (.nx (E3 (some (.int 1)) b11 b12 b13 b14) S4) := by
    refine for_of (rgN_of (n := 2) rfl (by decide)) ?_
    show forL (gSet 3) u_b4 [.int ((0 : Nat) : Int), .int ((1 : Nat) : Int)] (E3 o o o o o) S2 = _
    have g0 : gSet 3 (.int ((0 : Nat) : Int)) (E3 o o o o o) S2 = some (E3 (some (.int (frN false : Nat))) o o o o, S2) := rfl
    have g1 : gSet 3 (.int ((1 : Nat) : Int)) (E3 (some (.int (frN false : Nat))) a11 a12 a13 a14) S3 = some (E3 (some (.int (frN true : Nat))) a11 a12 a13 a14, S3) := rfl
    unfold forL
    simp only [g0]
    rw [e4]
    show forL (gSet 3) u_b4 [.int ((1 : Nat) : Int)] (E3 (some (.int (frN false : Nat))) a11 a12 a13 a14) S3 = _
    unfold forL
    simp only [g1]
    rw [e5]
    rfl
  let ρ := E3 (some (.int 1)) b11 b12 b13 b14
  have c5 := u_call (f := dMeth "Store" "face" F_Store_face [] (dVar 0) aNil) (ρ := ρ) (S := S4) (s_m (u_left A4) rfl rfl (s_face (u_left A4))) (u_face (f := dVar 2) (ρ := ρ) (u_right A4) rfl) (x' := .int (frN h.front : Nat)) (y' := .int (frN h.front : Nat)) rfl rfl (u_int _)
  have an : dMeth "Store" "answer" F_Store_answer [] (dVar 0) aNil ρ S4 = some (optI h.fin, S4) := s_m (u_left A4) rfl rfl (run_rt rfl (ret_of (s_f (u_left A4) rfl)))
  have am := u_answer (f := dVar 2) (ρ := ρ) (S0 := S4) (u_right A4) rfl
  have it1 : iSeq (dBin pIx (dVar 1) (dC (.int 0))) (u_E L Z M o o o o o o o o o o o o) S = some (Z.cells.map thD, S) := iSeqT_of (bin_of (x := Z.PD) (y := .int 0) rfl rfl rfl)
  have it2 : iSeq (dBin pIx (dVar 1) (dC (.int 1))) (u_E L Z M o y4 y5 y6 o o o o o o o o) S = some (Z.shelves.map thD, S) := iSeqT_of (bin_of (x := Z.PD) (y := .int 1) rfl rfl rfl)
  refine ⟨S4, run_rt rfl ((seq_nx (for_of it1 e1)).trans ((seq_nx (for_of it2 e2)).trans ((seq_nx e3).trans ((seq_nx s4).trans ((seq_nx ((ifS_f (not_of c5)).trans rfl)).trans ?_))))), TT⟩
  cases hf : h.fin with
  | none =>
    rw [hf] at an am
    exact seq_rt ((ifS_t (bin_of am (y := .non) rfl rfl)).trans (ret_of (bin_of an (y := .non) rfl rfl)))
  | some v =>
    rw [hf] at an am
    exact (seq_nx ((ifS_f (bin_of am (y := .non) rfl rfl)).trans rfl)).trans (ret_of (u_call an am (x' := .int v) (y' := .int v) rfl rfl (u_int v)))
end
/-! ### a deed -/
section
variable {Z : Hst} {S : Sto} {L : HL} {M : u_ML} {h : Hs} {T : Nat} {f e g : DE} {ρ : List (Option DV)}
/-- the model, changed -/
theorem u_m_home (A : AtS S (u_C Z L M h h)) (p : Pl) (v : Int) : Stp S (u_C Z L M h h) (S.set M.hm (dkP intD (apt h.home p v))) (u_C Z L M h { h with home := apt h.home p v }) :=
  (Stp.set A 10 (a := M.hm) (c := dkP intD h.home) (dkP intD (apt h.home p v))).of_eq rfl
theorem u_m_turn (A : AtS S (u_C Z L M h h)) (p : Pl) (v : Int) : Stp S (u_C Z L M h h) (S.set (M.t (!h.front)) (.lst ((h.page (!h.front)).turned.map tnD ++ [tnD (p, v)]))) (u_C Z L M h (h.deed (.turn p v))) := by
  have me : (h.page (!h.front)).turned.map tnD ++ [tnD (p, v)] = (h.back.turned ++ [(p, v)]).map tnD := by
    rw [List.map_append]; rfl
  rw [me]
  have df : h.deed (.turn p v) = h.setBack { h.back with turned := h.back.turned ++ [(p, v)] } := rfl
  cases hf : h.front with
  | true =>
    have hb : h.back = h.p0 := by unfold Hs.back Hs.page; rw [hf]; rfl
    have : h.deed (.turn p v) = { h with p0 := { h.p0 with turned := h.p0.turned ++ [(p, v)] } } := by
      rw [df, hb]; unfold Hs.setBack; rw [if_pos hf]
    rw [this, hb]
    exact (Stp.set A 13 (a := M.t0) (c := .lst (h.p0.turned.map tnD)) (.lst ((h.p0.turned ++ [(p, v)]).map tnD))).of_eq rfl
  | false =>
    have hb : h.back = h.p1 := by unfold Hs.back Hs.page; rw [hf]; rfl
    have : h.deed (.turn p v) = { h with p1 := { h.p1 with turned := h.p1.turned ++ [(p, v)] } } := by
      rw [df, hb]; unfold Hs.setBack; rw [if_neg (by rw [hf]; decide)]
    rw [this, hb]
    exact (Stp.set A 18 (a := M.t1) (c := .lst (h.p1.turned.map tnD)) (.lst ((h.p1.turned ++ [(p, v)]).map tnD))).of_eq rfl
theorem u_m_box (A : AtS S (u_C Z L M h h)) (x : Str) (v : Int) : Stp S (u_C Z L M h h) (S.set (M.b (!h.front)) (.lst ((h.page (!h.front)).held.map bvD ++ [bvD (x, v)]))) (u_C Z L M h (h.deed (.box x v))) := by
  have me : (h.page (!h.front)).held.map bvD ++ [bvD (x, v)] = (h.back.held ++ [(x, v)]).map bvD := by
    rw [List.map_append]; rfl
  rw [me]
  have df : h.deed (.box x v) = h.setBack { h.back with held := h.back.held ++ [(x, v)] } := rfl
  cases hf : h.front with
  | true =>
    have hb : h.back = h.p0 := by unfold Hs.back Hs.page; rw [hf]; rfl
    have : h.deed (.box x v) = { h with p0 := { h.p0 with held := h.p0.held ++ [(x, v)] } } := by
      rw [df, hb]; unfold Hs.setBack; rw [if_pos hf]
    rw [this, hb]
    exact (Stp.set A 12 (a := M.b0) (c := .lst (h.p0.held.map bvD)) (.lst ((h.p0.held ++ [(x, v)]).map bvD))).of_eq rfl
  | false =>
    have hb : h.back = h.p1 := by unfold Hs.back Hs.page; rw [hf]; rfl
    have : h.deed (.box x v) = { h with p1 := { h.p1 with held := h.p1.held ++ [(x, v)] } } := by
      rw [df, hb]; unfold Hs.setBack; rw [if_neg (by rw [hf]; decide)]
    rw [this, hb]
    exact (Stp.set A 17 (a := M.b1) (c := .lst (h.p1.held.map bvD)) (.lst ((h.p1.held ++ [(x, v)]).map bvD))).of_eq rfl
theorem u_m_face (A : AtS S (u_C Z L M h h)) : Stp S (u_C Z L M h h) (S.set M.fc (.lst [.int (frN (!h.front) : Nat)])) (u_C Z L M h { h with front := !h.front }) :=
  (Stp.set A 21 (a := M.fc) (c := .lst [.int (frN h.front : Nat)]) (.lst [.int (frN (!h.front) : Nat)])).of_eq rfl
theorem u_m_fin (A : AtS S (u_C Z L M h h)) (v : Int) : Stp S (u_C Z L M h h) (S.set M.an (.lst [.int v])) (u_C Z L M h { h with fin := some v }) :=
  (Stp.set A 22 (a := M.an) (c := .lst [optI h.fin]) (.lst [.int v])).of_eq rfl
/-- a page begun anew: four cells -/
theorem u_m_page (A : AtS S (u_C Z L M h h)) (p : Pg) (h1 : p.held = []) (h2 : p.turned = []) :
    ∃ (M' : u_ML), M'.o = M.o ∧ (let S1 := S ++ [Cell.lst (u_hd p)]; let S2 := S1 ++ [Cell.lst []]; let S3 := S2 ++ [Cell.lst []]; let S4 := S3 ++ [Cell.lst [.loc S.length, .loc S1.length, .loc S2.length]]
      Stp S (u_C Z L M h h) (S4.set M.pg (.lst ([DV.loc M.q0, .loc M.q1].set (frN (!h.front)) (.loc S3.length)))) (u_C Z L M' h (h.setBack p))) := by
  obtain ⟨r, a, b, c, ph, pt⟩ := p
  have h1 : ph = [] := h1
  have h2 : pt = [] := h2
  subst h1 h2
  let p : Pg := ⟨r, a, b, c, [], []⟩
  let S1 := S ++ [Cell.lst (u_hd p)]
  let S2 := S1 ++ [Cell.lst []]
  let S3 := S2 ++ [Cell.lst []]
  let S4 := S3 ++ [Cell.lst [.loc S.length, .loc S1.length, .loc S2.length]]
  cases hf : h.front with
  | true =>
    have e : h.setBack p = { h with p0 := p } := by unfold Hs.setBack; rw [if_pos hf]
    refine ⟨{ M with d0 := S.length, b0 := S1.length, t0 := S2.length, q0 := S3.length }, rfl, ?_⟩
    have T1 := Stp.new A 11 (Cell.lst (u_hd p))
    have T2 := Stp.new T1.at_ 12 (Cell.lst [])
    have T3 := Stp.new T2.at_ 13 (Cell.lst [])
    have T4 := Stp.new T3.at_ 14 (Cell.lst [.loc S.length, .loc S1.length, .loc S2.length])
    have T5 := Stp.set T4.at_ 20 (a := M.pg) (c := .lst [.loc M.q0, .loc M.q1]) (.lst [.loc S3.length, .loc M.q1])
    rw [show h.setBack ⟨r, a, b, c, [], []⟩ = { h with p0 := p } from e]
    exact ((((T1.trans T2).trans T3).trans T4).trans T5).of_eq rfl
  | false =>
    have e : h.setBack p = { h with p1 := p } := by unfold Hs.setBack; rw [if_neg (by rw [hf]; decide)]
    refine ⟨{ M with d1 := S.length, b1 := S1.length, t1 := S2.length, q1 := S3.length }, rfl, ?_⟩
    have T1 := Stp.new A 16 (Cell.lst (u_hd p))
    have T2 := Stp.new T1.at_ 17 (Cell.lst [])
    have T3 := Stp.new T2.at_ 18 (Cell.lst [])
    have T4 := Stp.new T3.at_ 19 (Cell.lst [.loc S.length, .loc S1.length, .loc S2.length])
    have T5 := Stp.set T4.at_ 20 (a := M.pg) (c := .lst [.loc M.q0, .loc M.q1]) (.lst [.loc M.q0, .loc S3.length])
    rw [show h.setBack ⟨r, a, b, c, [], []⟩ = { h with p1 := p } from e]
    exact ((((T1.trans T2).trans T3).trans T4).trans T5).of_eq rfl
end
end Lk61

namespace Lk61
open PySem PySem.Spec PyProof.Rows L2 Dn
/-! ### a deed, done -/
theorem u_cpBor {S : Sto} {k : LK} {ds : List DV} (h : plainL ds = true) : cpD true S (.lst k ds) = some (.lst k ds) := by
  show mapD true (cpN true (S.length + 1) S) (.lst k ds) = _
  unfold mapD
  rw [if_neg (fun z => Bool.noConfusion z.2), mapDL_plain h]
theorem u_eq_nil {S : Sto} {k : LK} {ds : List DV} (neg : Bool) (hp : plainL ds = true) (hg : goodL ds = true) (hd : deepL ds ≤ 60) : pEq neg (.lst k ds) (.lst .own []) S = some (.bl (if neg then !decide (ds = []) else decide (ds = [])), S) := by
  obtain ⟨p, h1, h2, h3⟩ := toPyL_good hg
  have t : toPy (.lst k ds) = some (.list p) := by
    unfold toPy
    rw [h1]
  have s1 : SeqAt.shaped (.list p) = true := by
    unfold SeqAt.shaped
    rw [show (PyData.list p).canLay0 = true from h2, decide_eq_true (show (PyData.list p).depth ≤ 64 from by show PyData.depthAll p + 1 ≤ 64; omega)] <;> rfl
  have e : eqDeep S (.lst k ds) (.lst .own []) = some (PyData.eqv (.list p) (.list [])) := by
    unfold eqDeep
    simp only [u_cpBor hp, t, show cpD true S (.lst .own []) = some (.lst .own []) from rfl, show toPy (.lst .own []) = some (.list []) from rfl]
    rw [if_pos ⟨s1, rfl⟩]
  have hp' : PyData.eqv (.list p) (.list []) = decide (ds = []) := by
    cases ds with
    | nil =>
      have : some p = some [] := by rw [← h1] <;> rfl
      cases this
      rfl
    | cons n w =>
      have h1' := h1
      unfold toPyL at h1'
      split at h1'
      · split at h1'
        · cases h1'
          rw [decide_eq_false (by simp)]
          rfl
        · cases h1'
      · cases h1'
  unfold pEq eqD
  rw [show scD (.lst k ds) (.lst .own []) = none from by cases k <;> rfl]
  simp only [e, hp']
section
variable {Z : Hst} {S : Sto} {L : HL} {M : u_ML} {h : Hs} {T : Nat}
theorem u_seats {n : Nat} {l : List (Pl × Int)} (hn : S[n]? = some (dkP intD l)) : pList [.loc n] S = some (.lst .own (l.map fun q => plD q.1), S) := by
  have e0 := hn
  unfold dkP at e0
  unfold pList itemsD
  simp only [asL_ndit e0]
  unfold asK0 asKT
  simp only [e0]
  rw [List.map_map]
  rfl
theorem u_back_pg (p : Pg) (b : Bool) : (h.setBack p).page b = if b = !h.front then p else h.page b := by
  unfold Hs.setBack Hs.page
  cases hf : h.front <;> cases b <;> rfl
theorem u_okBack (O : u_Ok Z h T) {p : Pg} (h1 : p.held.length ≤ 10 + (T + 1)) (h2 : p.turned.length ≤ 10 + (T + 1)) : u_Ok Z (h.setBack p) (T + 1) := by
  refine ⟨?_, fun b => ?_⟩
  · rw [← O.hk]
    unfold Hs.setBack
    split <;> rfl
  · rw [u_back_pg]
    split
    · exact ⟨h1, h2⟩
    · have := O.z b; omega
structure u_Nm (Z : Hst) : Prop where
  ok : ∀ p ∈ Z.homeK, PyData.strOk p.1 = true
theorem u_backE (A : AtS S (u_mC M h)) {f : DE} {ρ : Ev} (hf : f ρ S = some (.loc M.o, S)) : dBin pSub (dC (.int 1)) (dBin pIx (dBin pIx f (dC (.str "face"))) (dC (.int 0))) ρ S = some (.int (frN (!h.front) : Nat), S) := by
  refine (subI_of (a := 1) (b := (frN h.front : Nat)) rfl (u_face A hf)).trans ?_
  cases h.front <;> rfl
theorem u_lst_t (A : AtS S (u_mC M h)) {b : Bool} {f e : DE} {ρ : Ev} (hf : f ρ S = some (.loc M.o, S)) (he : e ρ S = some (.int (frN b : Nat), S)) : dBin pIx (dBin pIx (dBin pIx f (dC (.str "pages"))) e) (dC (.int 2)) ρ S = some (.loc (M.t b), S) :=
  bin_of (u_pages A hf he) (y := .int (2 : Nat)) rfl (ix_loc (u_at_q A b) (atD_nat rfl))
theorem u_lst_b (A : AtS S (u_mC M h)) {b : Bool} {f e : DE} {ρ : Ev} (hf : f ρ S = some (.loc M.o, S)) (he : e ρ S = some (.int (frN b : Nat), S)) : dBin pIx (dBin pIx (dBin pIx f (dC (.str "pages"))) e) (dC (.int 1)) ρ S = some (.loc (M.b b), S) :=
  bin_of (u_pages A hf he) (y := .int (1 : Nat)) rfl (ix_loc (u_at_q A b) (atD_nat rfl))
theorem u_deed (K : u_Zk Z) (KN : u_Nm Z) (O : u_Ok Z h T) (hT : T ≤ 400) (A : AtS S (u_C Z L M h h)) (c : Int) :
    ∃ S' L' M' h', F_law_deed [.loc L.st, .loc M.o, .int c] S = some (.non, S') ∧ Stp S (u_C Z L M h h) S' (u_C Z L' M' h' h') ∧ L'.st = L.st ∧ M'.o = M.o ∧ u_Ok Z h' (T + 1) := by
  let N (x3 x4 x5 x6 x7 x8 x9 x10 : Option DV) : List (Option DV) := [some (.loc L.st), some (.loc M.o), some (.int c), x3, x4, x5, x6, x7, x8, x9, x10]
  let o : Option DV := none
  have Am := u_right A
  have p40 : ∀ {ρ : List (Option DV)} {S : Sto}, dBin pPow (dC (.int 2)) (dC (.int 40)) ρ S = some (.int (2 ^ 40), S) := fun {ρ S} => bin_of (x := .int 2) (y := .int (40 : Nat)) rfl rfl (v_powI (b := 40) (by decide) (by decide))
  let v : Int := c * 94906267 % 2 ^ 40
  have v0 : 0 ≤ v := Int.emod_nonneg _ (by decide)
  let back := !h.front
  let ks := h.home.map (·.1)
  let j3 : Option DV := some (.int v)
  let j4 : Option DV := some (.int (frN back : Nat))
  let j5 : Option DV := some (.lst .own (ks.map plD))
  have k6 := w_pt_in (c := c) (j := 0) (m := 9) (by decide)
  let k : Int := w_pt c 0 9
  let j6 : Option DV := some (.int k)
  have s3 : dSet 3 (dBin pMod (dBin pMul (dVar 2) (dC (.int 94906267))) (dBin pPow (dC (.int 2)) (dC (.int 40)))) (N o o o o o o o o) S = some (.nx (N j3 o o o o o o o) S) := set_of (modI_of (bin_of (x := .int c) (y := .int 94906267) rfl rfl (v_mulI (by decide))) p40 (by decide))
  have s4 : dSet 4 (dBin pSub (dC (.int 1)) (dBin pIx (dBin pIx (dVar 1) (dC (.str "face"))) (dC (.int 0)))) (N j3 o o o o o o o) S = some (.nx (N j3 j4 o o o o o o) S) := set_of (u_backE Am rfl)
  have s5 : dSet 5 (dPrim pList (aCons (dBin pIx (dVar 1) (dC (.str "home"))) aNil)) (N j3 j4 o o o o o o) S = some (.nx (N j3 j4 j5 o o o o o) S) := by
    refine set_of ((prim_of (args1 (u_key Am rfl u_kh)) (u_seats (Am.at 0))).trans ?_)
    show some (DV.lst .own _, S) = some (DV.lst .own ((h.home.map (·.1)).map plD), S)
    rw [List.map_map]; rfl
  have s6 : dSet 6 (dPrim (cP (pureOf F_law_part) []) (aCons (dVar 2) (aCons (dC (.int 0)) (aCons (dC (.int 9)) aNil)))) (N j3 j4 j5 o o o o o) S = some (.nx (N j3 j4 j5 j6 o o o o) S) := set_of (w_part_of (c := c) (j := 0) (m := 9) rfl rfl rfl (by decide))
  have kz : ks.length ≤ 1000 := by show (h.home.map (·.1)).length ≤ 1000; rw [O.hk]; exact K.hz
  have gk : goodL (ks.map plD) = true := goodL_map fun p hp => by
    have hp : p ∈ h.home.map (·.1) := hp
    rw [O.hk] at hp
    show (PyData.strOk p.1 && (true && true)) = true
    rw [KN.ok p hp]; rfl
  have pk : plainL (ks.map plD) = true := plainL_iff.mpr fun d hd => by
    obtain ⟨p, _, rfl⟩ := List.mem_map.mp hd; rfl
  have dk : deepL (ks.map plD) ≤ 60 := by
    have : ∀ l : List Pl, deepL (l.map plD) ≤ 1 := fun l => by
      induction l with
      | nil => exact Nat.zero_le _
      | cons p l ih => exact Nat.max_le.mpr ⟨Nat.le_refl _, ih⟩
    have := this ks
    omega
  let ρ6 := N j3 j4 j5 j6 o o o o
  have c4 : dBin pLt (dVar 6) (dC (.int 4)) ρ6 S = some (.bl (decide (k < 4)), S) := bin_of (x := .int k) (y := .int 4) rfl rfl Dn.v_lt
  have cn : dBin (pEq true) (dVar 5) (dPrim pLst aNil) ρ6 S = some (.bl (!decide (ks.map plD = [])), S) := bin_of (x := .lst .own (ks.map plD)) (y := .lst .own []) rfl rfl (u_eq_nil true pk gk dk)
  have c7 := and_b c4 cn
  have front : ∀ {rest : DS} {r : Option Out}, rest ρ6 S = r → dSeq (dSet 3 (dBin pMod (dBin pMul (dVar 2) (dC (.int 94906267))) (dBin pPow (dC (.int 2)) (dC (.int 40))))) (dSeq (dSet 4 (dBin pSub (dC (.int 1)) (dBin pIx (dBin pIx (dVar 1) (dC (.str "face"))) (dC (.int 0))))) (dSeq (dSet 5 (dPrim pList (aCons (dBin pIx (dVar 1) (dC (.str "home"))) aNil))) (dSeq (dSet 6 (dPrim (cP (pureOf F_law_part) []) (aCons (dVar 2) (aCons (dC (.int 0)) (aCons (dC (.int 9)) aNil))))) rest))) (N o o o o o o o o) S = r :=
    fun {rest r} h => (seq_nx s3).trans ((seq_nx s4).trans ((seq_nx s5).trans ((seq_nx s6).trans h)))
  cases hc : (decide (k < 4) && !decide (ks.map plD = [])) with
  | true =>
    rw [hc] at c7
    have hne : ks ≠ [] := fun e => by rw [e] at hc; simp at hc
    have kl : 0 < ks.length := List.length_pos_iff.mpr hne
    have pj := w_pt_in (c := c) (j := 1) (m := (ks.length : Int)) (by omega)
    obtain ⟨j, hj⟩ : ∃ j : Nat, w_pt c 1 (ks.length : Int) = (j : Nat) := ⟨(w_pt c 1 (ks.length : Int)).toNat, by omega⟩
    have jl : j < ks.length := by omega
    let p : Pl := ks[j]
    have hp : p ∈ ks := List.getElem_mem jl
    let j9 : Option DV := some (.str p.1)
    let j10 : Option DV := some (.int (p.2 : Nat))
    have ln : dPrim pLen (aCons (dVar 5) aNil) ρ6 S = some (.int (ks.length : Nat), S) := by
      have := lenL_of (f := dVar 5) (ρ := ρ6) (S := S) (S1 := S) (k := .own) (xs := ks.map plD) rfl
      rw [List.length_map] at this
      exact this
    have s9 : dAsg (dBin pIx (dVar 5) (dPrim (cP (pureOf F_law_part) []) (aCons (dVar 2) (aCons (dC (.int 1)) (aCons (dPrim pLen (aCons (dVar 5) aNil)) aNil))))) (gTupD 2 (gsCons (gSet 9) (gsCons (gSet 10) gsNil))) ρ6 S = some (.nx (N j3 j4 j5 j6 o o j9 j10) S) := by
      have wp := w_part_of (f := dVar 2) (g := dC (.int 1)) (e := dPrim pLen (aCons (dVar 5) aNil)) (ρ := ρ6) (S := S) (c := c) (j := 1) (m := (ks.length : Nat)) rfl rfl ln (by omega)
      rw [hj] at wp
      have := bin_of (p := pIx) (f := dVar 5) (x := .lst .own (ks.map plD)) rfl wp (ix_seq (d := plD p) (atD_nat (by rw [List.getElem?_map, List.getElem?_eq_getElem jl]; rfl)))
      unfold dAsg
      rw [this]
      rfl
    let ρ9 := N j3 j4 j5 j6 o o j9 j10
    have c2 : dBin pLt (dVar 6) (dC (.int 2)) ρ9 S = some (.bl (decide (k < 2)), S) := bin_of (x := .int k) (y := .int 2) rfl rfl Dn.v_lt
    have hz : h.home.length ≤ 1000 := by rw [← List.length_map (f := fun q : Pl × Int => q.1)]; exact kz
    by_cases q2 : k < 2
    · rw [decide_eq_true q2] at c2
      have U := u_m_home A p v
      let S1 := S.set M.hm (dkP intD (apt h.home p v))
      have m1 : dSub (dVar 3) (dBin pIx (dVar 1) (dC (.str "home"))) (dPrim pTup (aCons (dVar 9) (aCons (dVar 10) aNil))) ρ9 S = some (.nx ρ9 S1) := sub_of (y := .int v) rfl (u_key Am rfl u_kh) (k := plD p) rfl (setI_P (f := intD) (v := v) (Am.at 0) (by omega))
      obtain ⟨S2, e2, T2, st2⟩ := s_put (u_left U.at_) p v (by omega)
      refine ⟨S2, L, M, _, run_rt rfl (front (seq_rt ((ifS_t c7).trans ((seq_nx s9).trans (seq_rt ((ifS_t c2).trans ((seq_nx m1).trans (ret_of (s_m (u_left U.at_) rfl (args3 (x := .str p.1) (y := .int (p.2 : Nat)) (z := .int v) rfl rfl rfl) e2))))))))), U.trans (T2.sub U.at_), st2, rfl, ⟨?_, fun b => by have := O.z b; exact ⟨by show (h.page b).held.length ≤ _; omega, by show (h.page b).turned.length ≤ _; omega⟩⟩⟩
      show (apt h.home p v).map (·.1) = Z.homeK
      rw [apt_keys (ahas_iff.mpr hp)]
      exact O.hk
    · rw [decide_eq_false q2] at c2
      have U := u_m_turn A p v
      have m1 := append_of (f := dBin pIx (dBin pIx (dBin pIx (dVar 1) (dC (.str "pages"))) (dVar 4)) (dC (.int 2))) (e := dPrim pTup (aCons (dPrim pTup (aCons (dVar 9) (aCons (dVar 10) aNil))) (aCons (dVar 3) aNil))) (ρ := ρ9) (S := S) (n := M.t back) (y := tnD (p, v)) (u_lst_t Am rfl rfl) (u_at_t Am back) rfl (by rw [List.length_map]; have := O.z back; omega)
      have ob := O.z back
      obtain ⟨S2, e2, T2, st2⟩ := s_kturn (u_left U.at_) p v (by show (h.page (!h.front)).turned.length < 100000; have : (h.page (!h.front)).turned.length ≤ 10 + T := ob.2; omega)
      refine ⟨S2, L, M, _, run_rt rfl (front (seq_rt ((ifS_t c7).trans ((seq_nx s9).trans ((seq_nx ((ifS_f c2).trans rfl)).trans ((seq_nx m1).trans (ret_of (s_m (u_left U.at_) rfl (args3 (x := .str p.1) (y := .int (p.2 : Nat)) (z := .int v) rfl rfl rfl) e2)))))))), U.trans (T2.sub U.at_), st2, rfl, ?_⟩
      refine u_okBack O ?_ ?_
      · have : h.back.held.length ≤ 10 + T := ob.1
        show h.back.held.length ≤ _; omega
      · have : h.back.turned.length ≤ 10 + T := ob.2
        show (h.back.turned ++ [(p, v)]).length ≤ _
        rw [List.length_append]
        show h.back.turned.length + 1 ≤ _; omega
  | false =>
    rw [hc] at c7
    have front2 : ∀ {s rest : DS} {r : Option Out}, rest ρ6 S = r → dSeq (dIfS (dAnd (dBin pLt (dVar 6) (dC (.int 4))) (dBin (pEq true) (dVar 5) (dPrim pLst aNil))) s dNext) rest ρ6 S = r := fun {s rest r} h => (seq_nx ((ifS_f c7).trans rfl)).trans h
    have c6 : dBin pLt (dVar 6) (dC (.int 6)) ρ6 S = some (.bl (decide (k < 6)), S) := bin_of (x := .int k) (y := .int 6) rfl rfl Dn.v_lt
    by_cases q6 : k < 6
    · rw [decide_eq_true q6] at c6
      have p2 := w_pt_in (c := c) (j := 2) (m := 26) (by decide)
      obtain ⟨i, hi⟩ : ∃ i : Nat, w_pt c 2 26 = (i : Nat) := ⟨(w_pt c 2 26).toNat, by omega⟩
      let bx := w_nm c i
      let j7 : Option DV := some (.str bx)
      have s7 : dSet 7 (dPrim (cP (pureOf F_law_name) []) (aCons (dVar 2) (aCons (dPrim (cP (pureOf F_law_part) []) (aCons (dVar 2) (aCons (dC (.int 2)) (aCons (dC (.int 26)) aNil)))) aNil))) ρ6 S = some (.nx (N j3 j4 j5 j6 j7 o o o) S) := by
        have wp := w_part_of (f := dVar 2) (g := dC (.int 2)) (e := dC (.int 26)) (ρ := ρ6) (S := S) (c := c) (j := 2) (m := 26) rfl rfl rfl (by decide)
        rw [hi] at wp
        exact set_of (callPP (args2 (x := .int c) rfl wp) rfl (w_name c i))
      let ρ7 := N j3 j4 j5 j6 j7 o o o
      have U := u_m_box A bx v
      have ob := O.z back
      have m1 := append_of (f := dBin pIx (dBin pIx (dBin pIx (dVar 1) (dC (.str "pages"))) (dVar 4)) (dC (.int 1))) (e := dPrim pTup (aCons (dVar 7) (aCons (dVar 3) aNil))) (ρ := ρ7) (S := S) (n := M.b back) (y := bvD (bx, v)) (u_lst_b Am rfl rfl) (u_at_b Am back) rfl (by rw [List.length_map]; omega)
      obtain ⟨S2, e2, T2, st2⟩ := s_box (u_left U.at_) bx v (by have : (h.page (!h.front)).held.length ≤ 10 + T := ob.1; show (h.page (!h.front)).held.length < 100000; omega)
      refine ⟨S2, L, M, _, run_rt rfl (front (front2 (seq_rt ((ifS_t c6).trans ((seq_nx s7).trans ((seq_nx m1).trans (ret_of (s_m (u_left U.at_) rfl (args2 (x := .str bx) (y := .int v) rfl rfl) e2)))))))), U.trans (T2.sub U.at_), st2, rfl, ?_⟩
      refine u_okBack O ?_ ?_
      · have : h.back.held.length ≤ 10 + T := ob.1
        show (h.back.held ++ [(bx, v)]).length ≤ _
        rw [List.length_append]
        show h.back.held.length + 1 ≤ _; omega
      · have : h.back.turned.length ≤ 10 + T := ob.2
        show h.back.turned.length ≤ _; omega
    · rw [decide_eq_false q6] at c6
      have front3 : ∀ {s rest : DS} {r : Option Out}, rest ρ6 S = r → dSeq (dIfS (dBin pLt (dVar 6) (dC (.int 6))) s dNext) rest ρ6 S = r := fun {s rest r} h => (seq_nx ((ifS_f c6).trans rfl)).trans h
      have e6 : dBin (pEq false) (dVar 6) (dC (.int 6)) ρ6 S = some (.bl (decide (k = 6)), S) := bin_of (x := .int k) (y := .int 6) rfl rfl v_eqI
      by_cases q7 : k = 6
      · rw [decide_eq_true q7] at e6
        have p3 := w_pt_in (c := c) (j := 3) (m := 60) (by decide)
        obtain ⟨a0, h0⟩ : ∃ i : Nat, w_pt c 3 60 = (i : Nat) := ⟨(w_pt c 3 60).toNat, by omega⟩
        obtain ⟨a1, h1⟩ : ∃ i : Nat, v % 3000 = (i : Nat) := ⟨(v % 3000).toNat, by omega⟩
        obtain ⟨a2, h2⟩ : ∃ i : Nat, v / 7 % 101 = (i : Nat) := ⟨(v / 7 % 101).toNat, by omega⟩
        obtain ⟨a3, h3⟩ : ∃ i : Nat, v / 11 % 3000 = (i : Nat) := ⟨(v / 11 % 3000).toNat, by omega⟩
        let p : Pg := ⟨a0, a1, a2, a3, [], []⟩
        obtain ⟨M', mo, U⟩ := u_m_page A p rfl rfl
        let S1 := S ++ [Cell.lst (u_hd p)]
        let S2 := S1 ++ [Cell.lst []]
        let S3 := S2 ++ [Cell.lst []]
        let S4 := S3 ++ [Cell.lst [.loc S.length, .loc S1.length, .loc S2.length]]
        let S5 := S4.set M.pg (.lst ([DV.loc M.q0, .loc M.q1].set (frN (!h.front)) (.loc S3.length)))
        have U : Stp S (u_C Z L M h h) S5 (u_C Z L M' h (h.setBack p)) := U
        let j8 : Option DV := some (.loc S.length)
        have s8 : dSet 8 (dPrim pLstM (aCons (dPrim (cP (pureOf F_law_part) []) (aCons (dVar 2) (aCons (dC (.int 3)) (aCons (dC (.int 60)) aNil)))) (aCons (dBin pMod (dVar 3) (dC (.int 3000))) (aCons (dBin pMod (dBin pDiv (dVar 3) (dC (.int 7))) (dC (.int 101))) (aCons (dBin pMod (dBin pDiv (dVar 3) (dC (.int 11))) (dC (.int 3000))) aNil))))) ρ6 S = some (.nx (N j3 j4 j5 j6 o j8 o o) S1) := by
          have wp := w_part_of (f := dVar 2) (g := dC (.int 3)) (e := dC (.int 60)) (ρ := ρ6) (S := S) (c := c) (j := 3) (m := 60) rfl rfl rfl (by decide)
          rw [h0] at wp
          have w1 : dBin pMod (dVar 3) (dC (.int 3000)) ρ6 S = some (.int (a1 : Nat), S) := by rw [← h1]; exact modI_of (a := v) (b := 3000) rfl rfl (by decide)
          have w2 : dBin pMod (dBin pDiv (dVar 3) (dC (.int 7))) (dC (.int 101)) ρ6 S = some (.int (a2 : Nat), S) := by rw [← h2]; exact modI_of (b := 101) (bin_of (x := .int v) (y := .int 7) rfl rfl (v_divI (by decide) (by decide))) rfl (by decide)
          have w3 : dBin pMod (dBin pDiv (dVar 3) (dC (.int 11))) (dC (.int 3000)) ρ6 S = some (.int (a3 : Nat), S) := by rw [← h3]; exact modI_of (b := 3000) (bin_of (x := .int v) (y := .int 11) rfl rfl (v_divI (by decide) (by decide))) rfl (by decide)
          refine set_of (prim_of (argsC wp (args3 w1 w2 w3)) ?_)
          rw [v_pLstM, if_pos (size_ok (by show 4 ≤ _; omega))]; rfl
        let ρ8 := N j3 j4 j5 j6 o j8 o o
        have A4 : AtS S4 (u_C Z L M h h) := ((((Stp.junk A (T := [Cell.lst (u_hd p)]) rfl).trans (Stp.junk (Stp.junk A (T := [Cell.lst (u_hd p)]) rfl).at_ (T := [Cell.lst []]) rfl)).at_.ext fun a ha => (List.getElem?_append_left (((Stp.junk (Stp.junk A (T := [Cell.lst (u_hd p)]) rfl).at_ (T := [Cell.lst []]) rfl).at_).lt ha)).trans rfl)
          |> fun X : AtS S3 (u_C Z L M h h) => X.ext fun a ha => List.getElem?_append_left (X.lt ha))
        have l3 : pLstM [.loc S.length, .loc S1.length, .loc S2.length] S3 = some (.loc S3.length, S4) := by rw [v_pLstM, if_pos (size_ok (by show 3 ≤ _; omega))]
        have m1 : dSub (dPrim pLstM (aCons (dVar 8) (aCons (dPrim pLstM aNil) (aCons (dPrim pLstM aNil) aNil)))) (dBin pIx (dVar 1) (dC (.str "pages"))) (dVar 4) ρ8 S1 = some (.nx ρ8 S5) := by
          refine sub_of (y := .loc S3.length) (S1 := S4) (prim_of (args3 (x := .loc S.length) (S1 := S1) rfl (y := .loc S1.length) (S2 := S2) rfl (z := .loc S2.length) (S3 := S3) rfl) l3) (u_key (u_right A4) rfl u_kp) (k := .int (frN back : Nat)) rfl (setI_lst ((u_right A4).at 10) (j := frN (!h.front)) ?_)
          show ixN 2 ((frN (!h.front) : Nat) : Int) = _
          cases h.front <;> rfl
        have pgl : M.pg < S.length := Am.lt (by simp [u_mC])
        have hd5 : S5[S.length]? = some (Cell.lst (u_hd p)) := by
          show (S4.set M.pg _)[S.length]? = _
          rw [List.getElem?_set_ne (by omega)]
          show (S ++ [_] ++ [_] ++ [_] ++ [_])[S.length]? = _
          rw [List.append_assoc, List.append_assoc, List.append_assoc, List.getElem?_append_right (Nat.le_refl _), Nat.sub_self]; rfl
        have hx : ∀ (i : Nat) {d : DV}, (u_hd p)[i]? = some d → dBin pIx (dVar 8) (dC (.int (i : Nat))) ρ8 S5 = some (d, S5) := fun i {d} hd => bin_of (x := .loc S.length) (y := .int (i : Nat)) rfl rfl (ix_loc hd5 (atD_nat hd))
        obtain ⟨S6, L', e2, T2, st2⟩ := s_begin (u_left U.at_) p rfl rfl
        refine ⟨S6, L', M', _, run_rt rfl (front (front2 (front3 (seq_rt ((ifS_t e6).trans ((seq_nx s8).trans ((seq_nx m1).trans (ret_of (s_m (u_left U.at_) rfl (argsC (hx 0 rfl) (args3 (hx 1 rfl) (hx 2 rfl) (hx 3 rfl))) e2))))))))), U.trans (T2.sub U.at_), st2, mo, u_okBack O (Nat.zero_le _) (Nat.zero_le _)⟩
      · rw [decide_eq_false q7] at e6
        have front4 : ∀ {s rest : DS} {r : Option Out}, rest ρ6 S = r → dSeq (dIfS (dBin (pEq false) (dVar 6) (dC (.int 6))) s dNext) rest ρ6 S = r := fun {s rest r} h => (seq_nx ((ifS_f e6).trans rfl)).trans h
        have e7 : dBin (pEq false) (dVar 6) (dC (.int 7)) ρ6 S = some (.bl (decide (k = 7)), S) := bin_of (x := .int k) (y := .int 7) rfl rfl v_eqI
        by_cases q8 : k = 7
        · rw [decide_eq_true q8] at e7
          have U := u_m_face A
          have m1 : dSub (dVar 4) (dBin pIx (dVar 1) (dC (.str "face"))) (dC (.int 0)) ρ6 S = some (.nx ρ6 _) := sub_of (y := .int (frN back : Nat)) rfl (u_key Am rfl u_kf) (k := .int 0) rfl (setI_lst (Am.at 11) (j := 0) rfl)
          obtain ⟨S2, e2, T2, st2⟩ := s_turn (u_left U.at_)
          exact ⟨S2, L, M, _, run_rt rfl (front (front2 (front3 (front4 (seq_rt ((ifS_t e7).trans ((seq_nx m1).trans (ret_of (s_m (u_left U.at_) rfl rfl e2))))))))), U.trans (T2.sub U.at_), st2, rfl, ⟨O.hk, fun b => by have := O.z b; exact ⟨by show (h.page b).held.length ≤ _; omega, by show (h.page b).turned.length ≤ _; omega⟩⟩⟩
        · rw [decide_eq_false q8] at e7
          have U := u_m_fin A v
          have m1 : dSub (dVar 3) (dBin pIx (dVar 1) (dC (.str "answer"))) (dC (.int 0)) ρ6 S = some (.nx ρ6 _) := sub_of (y := .int v) rfl (u_key Am rfl u_ka) (k := .int 0) rfl (setI_lst (Am.at 12) (j := 0) rfl)
          have Ls := u_left U.at_
          have e2 : F_Store_give [.loc L.st, .int v] (S.set M.an (.lst [.int v])) = some (.non, (S.set M.an (.lst [.int v])).set L.st (.ins "Store" (stF L { h with front := h.front, fin := some v }))) := run_nx rfl (setF_at rfl rfl (ss_st Ls) rfl (show (5 : Nat) < 1000 by decide))
          have T2 := (sset_st Ls h.front (some v)).1
          exact ⟨_, L, M, { h with fin := some v }, run_rt rfl (front (front2 (front3 (front4 ((seq_nx ((ifS_f e7).trans rfl)).trans ((seq_nx m1).trans (ret_of (s_m Ls rfl (args1 (x := .int v) rfl) e2)))))))), U.trans (T2.sub U.at_), rfl, rfl, ⟨O.hk, fun b => by have := O.z b; exact ⟨by show (h.page b).held.length ≤ _; omega, by show (h.page b).turned.length ≤ _; omega⟩⟩⟩
end
end Lk61

namespace Lk61
open PySem PySem.Spec PyProof.Rows L2 Dn
/-! ### the law's program -/
def u_cell1 (c b : Int) (k : Nat) : Thing := (w_nm b k, (c + 31 * (k : Int)) * 94906267 % 2 ^ 40, decide (w_pt (c + (k : Int)) 3 2 = 1))
def u_shelf1 (c b : Int) (k : Nat) : Thing := (w_nm b (8 + k), 1 + w_pt (c + (k : Int)) 4 8, decide (w_pt (c + (k : Int)) 5 2 = 1))
def u_Z (c b : Int) (nc ns : Nat) (beg : List Str) : Hst := ⟨List.replicate 60 (.endr (.n 0)), (List.range nc).map (u_cell1 c b), (List.range ns).map (u_shelf1 c b), [], beg, []⟩
theorem u_program (c b : Int) : ∃ nc ns : Nat, nc ≤ 8 ∧ ns ≤ 4 ∧ ∀ beg, pureOf F_law_program [.int c, .int b] = some (u_Z c b nc ns beg).PD := by
  let N (x2 x3 x4 x5 : Option DV) : List (Option DV) := [some (.int c), some (.int b), x2, x3, x4, x5]
  let o : Option DV := none
  have p5 := w_pt_in (c := c) (j := 0) (m := 5) (by decide)
  have p4 := w_pt_in (c := c) (j := 1) (m := 4) (by decide)
  obtain ⟨n0, h0⟩ : ∃ n : Nat, w_pt c 0 5 = (n : Nat) := ⟨(w_pt c 0 5).toNat, by omega⟩
  obtain ⟨n1, h1⟩ : ∃ n : Nat, w_pt c 1 4 = (n : Nat) := ⟨(w_pt c 1 4).toNat, by omega⟩
  let L2 (a b : Nat) : DV := .lst .own [.int (a : Nat), .int (b : Nat)]
  have l2 : ∀ {a b : DV} {S : Sto}, pLst [a, b] S = some (.lst .own [a, b], S) := fun {a b S} => by rw [v_pLst, if_pos (size_ok (by show 2 ≤ _; omega))]
  have s2 : dSet 2 (dPrim pLst (aCons (dPrim (cP (pureOf F_law_part) []) (aCons (dVar 0) (aCons (dC (.int 0)) (aCons (dC (.int 5)) aNil)))) (aCons (dPrim (cP (pureOf F_law_part) []) (aCons (dVar 0) (aCons (dC (.int 1)) (aCons (dC (.int 4)) aNil)))) aNil))) (N o o o o) ([] : Sto) = some (.nx (N (some (L2 n0 n1)) o o o) []) := by
    have a := w_part_of (f := dVar 0) (g := dC (.int 0)) (e := dC (.int 5)) (ρ := N o o o o) (S := []) (c := c) (j := 0) (m := 5) rfl rfl rfl (by decide)
    have b := w_part_of (f := dVar 0) (g := dC (.int 1)) (e := dC (.int 4)) (ρ := N o o o o) (S := []) (c := c) (j := 1) (m := 4) rfl rfl rfl (by decide)
    rw [h0] at a
    rw [h1] at b
    exact set_of (prim_of (args2 a b) l2)
  obtain ⟨nc, ns, nc8, ns4, s3⟩ : ∃ nc ns : Nat, nc ≤ 8 ∧ ns ≤ 4 ∧ dIfS (dBin (pEq false) (dPrim (cP (pureOf F_law_part) []) (aCons (dVar 0) (aCons (dC (.int 2)) (aCons (dC (.int 4)) aNil)))) (dC (.int 1))) (dSet 2 (dPrim pLst (aCons (dC (.int 8)) (aCons (dC (.int 4)) aNil)))) dNext (N (some (L2 n0 n1)) o o o) ([] : Sto) = some (.nx (N (some (L2 nc ns)) o o o) []) := by
    have cc : dBin (pEq false) (dPrim (cP (pureOf F_law_part) []) (aCons (dVar 0) (aCons (dC (.int 2)) (aCons (dC (.int 4)) aNil)))) (dC (.int 1)) (N (some (L2 n0 n1)) o o o) ([] : Sto) = some (.bl (decide (w_pt c 2 4 = 1)), []) := bin_of (w_part_of (c := c) (j := 2) (m := 4) rfl rfl rfl (by decide)) (y := .int 1) rfl v_eqI
    by_cases q : w_pt c 2 4 = 1
    · rw [decide_eq_true q] at cc
      exact ⟨8, 4, Nat.le_refl _, Nat.le_refl _, (ifS_t cc).trans (set_of (prim_of (args2 (x := .int 8) (y := .int 4) rfl rfl) l2))⟩
    · rw [decide_eq_false q] at cc
      exact ⟨n0, n1, by omega, by omega, (ifS_f cc).trans rfl⟩
  refine ⟨nc, ns, nc8, ns4, fun beg => ?_⟩
  let j2 : Option DV := some (L2 nc ns)
  let CL : List DV := (List.range nc).map fun k => thD (u_cell1 c b k)
  let SL : List DV := (List.range ns).map fun k => thD (u_shelf1 c b k)
  have nm : ∀ {e : DE} {ρ : List (Option DV)} {S : Sto} {k : Nat}, dVar 1 ρ S = some (.int b, S) → e ρ S = some (.int (k : Nat), S) → dPrim (cP (pureOf F_law_name) []) (aCons (dVar 1) (aCons e aNil)) ρ S = some (.str (w_nm b k), S) := fun {e ρ S k} h1 h2 => callPP (args2 h1 h2) rfl (w_name b k)
  have s4 : dSet 3 (dPrim pLstM aNil) (N j2 o o o) ([] : Sto) = some (.nx (N j2 (some (.loc 0)) o o) [.lst []]) := rfl
  obtain ⟨ρ', e3, x4, rfl⟩ := for_app (D := fun (i : Nat) => DV.int i) (E := fun k => thD (u_cell1 c b k)) (g := gSet 4) (body := dExpr (dMt pAppend (dVar 3) (aCons (dPrim pTup (aCons (dPrim (cP (pureOf F_law_name) []) (aCons (dVar 1) (aCons (dVar 4) aNil))) (aCons (dBin pMod (dBin pMul (dBin pAdd (dVar 0) (dBin pMul (dC (.int 31)) (dVar 4))) (dC (.int 94906267))) (dBin pPow (dC (.int 2)) (dC (.int 40)))) (aCons (dBin (pEq false) (dPrim (cP (pureOf F_law_part) []) (aCons (dBin pAdd (dVar 0) (dVar 4)) (aCons (dC (.int 3)) (aCons (dC (.int 2)) aNil)))) (dC (.int 1))) aNil)))) aNil))) (I := fun ρ => ∃ x4, ρ = N j2 (some (.loc 0)) x4 o) (st := fun acc => [.lst acc]) 1000 (List.range nc) [] (N j2 (some (.loc 0)) o o) ⟨o, rfl⟩ (by rw [List.length_nil, List.length_range]; omega) (fun k hk acc ρ hacc hI => by
    obtain ⟨x4, rfl⟩ := hI
    let ρ1 := N j2 (some (.loc 0)) (some (.int (k : Nat))) o
    have ev : dBin pMod (dBin pMul (dBin pAdd (dVar 0) (dBin pMul (dC (.int 31)) (dVar 4))) (dC (.int 94906267))) (dBin pPow (dC (.int 2)) (dC (.int 40))) ρ1 [.lst acc] = some (.int ((c + 31 * (k : Int)) * 94906267 % 2 ^ 40), [.lst acc]) :=
      modI_of (bin_of (addI_of (a := c) rfl (bin_of (x := .int 31) (y := .int (k : Nat)) rfl rfl (v_mulIl (by decide)))) (y := .int 94906267) rfl (v_mulI (by decide))) (bin_of (x := .int 2) (y := .int (40 : Nat)) rfl rfl (v_powI (b := 40) (by decide) (by decide))) (by decide)
    have et : dBin (pEq false) (dPrim (cP (pureOf F_law_part) []) (aCons (dBin pAdd (dVar 0) (dVar 4)) (aCons (dC (.int 3)) (aCons (dC (.int 2)) aNil)))) (dC (.int 1)) ρ1 [.lst acc] = some (.bl (decide (w_pt (c + (k : Int)) 3 2 = 1)), [.lst acc]) := bin_of (w_part_of (c := c + (k : Int)) (j := 3) (m := 2) (addI_of (a := c) (b := (k : Nat)) rfl rfl) rfl rfl (by decide)) (y := .int 1) rfl v_eqI
    exact ⟨ρ1, [.lst acc], ρ1, rfl, append_of (f := dVar 3) (n := 0) rfl rfl (prim_of (args3 (nm (k := k) rfl rfl) ev et) rfl) (by omega), _, rfl⟩)
  rw [List.nil_append] at e3
  have s5 := for_of (it := iRange1 (aCons (dBin pIx (dVar 2) (dC (.int 0))) aNil)) (ρ := N j2 (some (.loc 0)) o o) (S := [.lst []]) (rgN_of (n := nc) (bin_of (x := L2 nc ns) (y := .int 0) rfl rfl rfl) (by omega)) e3
  have s6 : dSet 5 (dPrim pLstM aNil) (N j2 (some (.loc 0)) x4 o) [.lst CL] = some (.nx (N j2 (some (.loc 0)) x4 (some (.loc 1))) [.lst CL, .lst []]) := rfl
  obtain ⟨ρ', e5, y4, rfl⟩ := for_app (D := fun (i : Nat) => DV.int i) (E := fun k => thD (u_shelf1 c b k)) (g := gSet 4) (body := dExpr (dMt pAppend (dVar 5) (aCons (dPrim pTup (aCons (dPrim (cP (pureOf F_law_name) []) (aCons (dVar 1) (aCons (dBin pAdd (dC (.int 8)) (dVar 4)) aNil))) (aCons (dBin pAdd (dC (.int 1)) (dPrim (cP (pureOf F_law_part) []) (aCons (dBin pAdd (dVar 0) (dVar 4)) (aCons (dC (.int 4)) (aCons (dC (.int 8)) aNil))))) (aCons (dBin (pEq false) (dPrim (cP (pureOf F_law_part) []) (aCons (dBin pAdd (dVar 0) (dVar 4)) (aCons (dC (.int 5)) (aCons (dC (.int 2)) aNil)))) (dC (.int 1))) aNil)))) aNil))) (I := fun ρ => ∃ x4, ρ = N j2 (some (.loc 0)) x4 (some (.loc 1))) (st := fun acc => [.lst CL, .lst acc]) 1000 (List.range ns) [] (N j2 (some (.loc 0)) x4 (some (.loc 1))) ⟨x4, rfl⟩ (by rw [List.length_nil, List.length_range]; omega) (fun k hk acc ρ hacc hI => by
    obtain ⟨x4, rfl⟩ := hI
    let ρ1 := N j2 (some (.loc 0)) (some (.int (k : Nat))) (some (.loc 1))
    have i8 : dBin pAdd (dC (.int 8)) (dVar 4) ρ1 [.lst CL, .lst acc] = some (.int ((8 + k : Nat) : Int), [.lst CL, .lst acc]) := by
      rw [show ((8 + k : Nat) : Int) = 8 + (k : Int) by omega]
      exact addI_of (a := 8) (b := (k : Nat)) rfl rfl
    have ck : dBin pAdd (dVar 0) (dVar 4) ρ1 [.lst CL, .lst acc] = some (.int (c + (k : Int)), [.lst CL, .lst acc]) := addI_of (a := c) (b := (k : Nat)) rfl rfl
    have ev : dBin pAdd (dC (.int 1)) (dPrim (cP (pureOf F_law_part) []) (aCons (dBin pAdd (dVar 0) (dVar 4)) (aCons (dC (.int 4)) (aCons (dC (.int 8)) aNil)))) ρ1 [.lst CL, .lst acc] = some (.int (1 + w_pt (c + (k : Int)) 4 8), [.lst CL, .lst acc]) :=
      addI_of (a := 1) rfl (w_part_of (c := c + (k : Int)) (j := 4) (m := 8) ck rfl rfl (by decide))
    have et : dBin (pEq false) (dPrim (cP (pureOf F_law_part) []) (aCons (dBin pAdd (dVar 0) (dVar 4)) (aCons (dC (.int 5)) (aCons (dC (.int 2)) aNil)))) (dC (.int 1)) ρ1 [.lst CL, .lst acc] = some (.bl (decide (w_pt (c + (k : Int)) 5 2 = 1)), [.lst CL, .lst acc]) := bin_of (w_part_of (c := c + (k : Int)) (j := 5) (m := 2) ck rfl rfl (by decide)) (y := .int 1) rfl v_eqI
    exact ⟨ρ1, [.lst CL, .lst acc], ρ1, rfl, append_of (f := dVar 5) (n := 1) rfl rfl (prim_of (args3 (nm (k := 8 + k) rfl i8) ev et) rfl) (by omega), _, rfl⟩)
  rw [List.nil_append] at e5
  have s7 := for_of (it := iRange1 (aCons (dBin pIx (dVar 2) (dC (.int 1))) aNil)) (ρ := N j2 (some (.loc 0)) x4 (some (.loc 1))) (S := [.lst CL, .lst []]) (rgN_of (n := ns) (bin_of (x := L2 nc ns) (y := .int 1) rfl rfl rfl) (by omega)) e5
  let T : Sto := [.lst CL, .lst SL]
  let ρ9 := N j2 (some (.loc 0)) y4 (some (.loc 1))
  have ep : (u_Z c b nc ns beg).PD = .tup [.tup CL, .tup SL, .tup ((List.replicate 60 (PRow.endr (.n 0))).map PRow.d)] := by
    show DV.tup [.tup (((List.range nc).map (u_cell1 c b)).map thD), .tup (((List.range ns).map (u_shelf1 c b)).map thD), _] = _
    rw [List.map_map, List.map_map]
    rfl
  have g1 : dPrim pTuple (aCons (dVar 3) aNil) ρ9 T = some (.tup CL, T) := prim_of (args1 (x := .loc 0) rfl) rfl
  have g2 : dPrim pTuple (aCons (dVar 5) aNil) ρ9 T = some (.tup SL, T) := prim_of (args1 (x := .loc 1) rfl) rfl
  have g3 : dBin pMulT (dPrim pTup (aCons (dPrim pTup (aCons (dC (.str "end")) (aCons (dC (.int 0)) aNil))) aNil)) (dC (.int 60)) ρ9 T = some (.tup ((List.replicate 60 (PRow.endr (.n 0))).map PRow.d), T) := by
    refine bin_of (x := .tup [.tup [.str "end", .int 0]]) (y := .int 60) rfl rfl ?_
    show (if (2 : Int) ≤ 60 ∧ (60 : Int) ≤ 1000 ∧ 1 ≤ 1000 then some (DV.tup (repD [DV.tup [.str "end", .int 0]] 60), T) else none) = _
    rw [if_pos (by decide)]
    rfl
  rw [ep]
  exact pureOf_of (S' := T) (run_rt rfl ((seq_nx s2).trans ((seq_nx s3).trans ((seq_nx s4).trans ((seq_nx s5).trans ((seq_nx s6).trans ((seq_nx s7).trans (ret_of (prim_of (args3 g1 g2 g3) rfl))))))))) (by rw [← ep]; exact PD_plain _)
/-! ### what is in order of it -/
section
variable {c b : Int} {nc ns : Nat} {beg : List Str}
theorem u_In (hc : nc ≤ 8) (hs : ns ≤ 4) : (u_Z c b nc ns beg).In := by
  refine ⟨?_, fun t ht => ?_, fun t ht => ?_, ?_, ?_⟩
  · show (((List.range nc).map (u_cell1 c b) ++ (List.range ns).map (u_shelf1 c b)).map (·.1)).Nodup
    rw [List.map_append, List.map_map, List.map_map]
    refine List.nodup_append.mpr ⟨?_, ?_, fun x hx y hy e => ?_⟩
    · refine List.pairwise_map.mpr (List.Pairwise.imp_of_mem (fun {i j} hi hj ne e => ne ?_) (List.nodup_range (n := nc)))
      have := List.mem_range.mp hi
      have := List.mem_range.mp hj
      exact w_nm_inj (by omega) (by omega) e
    · refine List.pairwise_map.mpr (List.Pairwise.imp_of_mem (fun {i j} hi hj ne e => ne ?_) (List.nodup_range (n := ns)))
      have := List.mem_range.mp hi
      have := List.mem_range.mp hj
      have e : w_nm b (8 + i) = w_nm b (8 + j) := e
      have := w_nm_inj (b := b) (i := 8 + i) (j := 8 + j) (by omega) (by omega) e
      omega
    · obtain ⟨i, hi, rfl⟩ := List.mem_map.mp hx
      obtain ⟨j, hj, rfl⟩ := List.mem_map.mp hy
      have := List.mem_range.mp hi
      have := List.mem_range.mp hj
      have e : w_nm b i = w_nm b (8 + j) := e
      have := w_nm_inj (b := b) (i := i) (j := 8 + j) (by omega) (by omega) e
      omega
  · obtain ⟨k, _, rfl⟩ := List.mem_map.mp ht
    exact ⟨Int.emod_nonneg _ (by decide), Int.emod_lt_of_pos _ (by decide)⟩
  · obtain ⟨k, _, rfl⟩ := List.mem_map.mp ht
    have := w_pt_in (c := c + (k : Int)) (j := 4) (m := 8) (by decide)
    exact ⟨by show (1 : Int) ≤ 1 + w_pt (c + (k : Int)) 4 8; omega, by show 1 + w_pt (c + (k : Int)) 4 8 ≤ 8; omega⟩
  · show ((List.range nc).map _).length ≤ 100
    rw [List.length_map, List.length_range]; omega
  · show ((List.range ns).map _).length ≤ 100
    rw [List.length_map, List.length_range]; omega
theorem u_foldNd {β κ α : Type} [DecidableEq κ] (kf : β → κ) (vf : β → α) : ∀ (l : List β) (acc : List (κ × α)), (acc.map (·.1)).Nodup → ((l.foldl (fun a c => apt a (kf c) (vf c)) acc).map (·.1)).Nodup
  | [], _, h => h
  | x :: l, acc, h => u_foldNd kf vf l _ (apt_nd h)
theorem u_shelvesNd : ∀ (l : List Thing) (acc : List (Pl × Int)), (acc.map (·.1)).Nodup → ((l.foldl shelfL acc).map (·.1)).Nodup
  | [], _, h => h
  | x :: l, acc, h => u_shelvesNd l _ (u_foldNd (fun k => (x.1, k)) (fun _ => 0) _ _ h)
theorem u_zk {Z : Hst} (I : Z.In) : u_Zk Z := by
  refine ⟨fun t ht => isP_of (I.home_c ht), fun t ht => ?_, u_shelvesNd _ _ (u_foldNd (fun c : Thing => ((c.1, 0) : Pl)) (fun c => c.2.1) _ _ List.nodup_nil), ?_⟩
  · have sv := I.sv t ht
    refine ⟨t.2.1.toNat, by omega, by omega, ?_, fun k hk => isP_of (I.home_s ht (by omega))⟩
    rw [I.sz_s ht]
    congr 1
    omega
  · show (Z.homeL.map (·.1)).length ≤ 1000
    rw [List.length_map]
    exact I.hz
theorem u_names {Z : Hst} (h : ∀ t ∈ Z.cells ++ Z.shelves, PyData.strOk t.1 = true) : u_Nm Z := by
  refine ⟨fun p hp => ?_⟩
  obtain ⟨q, hq, rfl⟩ := List.mem_map.mp hp
  exact fold_shelf_all (P := fun q => PyData.strOk q.1.1 = true) Z.shelves _ (fold_apt_all (fun c : Thing => ((c.1, 0) : Pl)) (fun c => c.2.1) (P := fun q => PyData.strOk q.1.1 = true) Z.cells [] (fun _ h => nomatch h) fun c hc => h c (List.mem_append_left _ hc)) (fun c hc k _ => h c (List.mem_append_right _ hc)) q hq
theorem u_zn : u_Nm (u_Z c b nc ns beg) := u_names fun t ht => by
  rcases List.mem_append.mp ht with h | h
  · obtain ⟨k, _, rfl⟩ := List.mem_map.mp h
    exact w_nm_ok _ _
  · obtain ⟨k, _, rfl⟩ := List.mem_map.mp h
    exact w_nm_ok _ _
end
end Lk61

namespace Lk61
open PySem PySem.Spec PyProof.Rows L2 Dn
/-! ### two stores -/
def u_upd {α : Type} (f : Bool → α) (i : Bool) (v : α) : Bool → α := fun j => if j = i then v else f j
theorem u_upd_self {α : Type} {f : Bool → α} {i : Bool} {v : α} : u_upd f i v i = v := if_pos rfl
theorem u_upd_ne {α : Type} {f : Bool → α} {i j : Bool} {v : α} (h : j ≠ i) : u_upd f i v j = f j := if_neg h
abbrev u_e (Zf : Bool → Hst) (st md : Bool → Nat) (i : Bool) : DV := .lst .own [.loc (st i), (Zf i).PD, .loc (md i)]
structure u_Two (Zf : Bool → Hst) (st md : Bool → Nat) (S : Sto) (Lf : Bool → HL) (Mf : Bool → u_ML) (hf : Bool → Hs) (T : Nat) : Prop where
  c : S[0]? = some (.lst [u_e Zf st md false, u_e Zf st md true])
  a : ∀ i, AtS S (u_C (Zf i) (Lf i) (Mf i) (hf i) (hf i))
  sE : ∀ i, (Lf i).st = st i
  mE : ∀ i, (Mf i).o = md i
  d : ∀ i j, i ≠ j → ∀ a ∈ (u_C (Zf i) (Lf i) (Mf i) (hf i) (hf i)).map (·.1), a ∉ (u_C (Zf j) (Lf j) (Mf j) (hf j) (hf j)).map (·.1)
  z : ∀ i, 0 ∉ (u_C (Zf i) (Lf i) (Mf i) (hf i) (hf i)).map (·.1)
  ok : ∀ i, u_Ok (Zf i) (hf i) T
  nl : S.all notLok = true
section
variable {Zf : Bool → Hst} {st md : Bool → Nat} {S S' : Sto} {Lf : Bool → HL} {Mf : Bool → u_ML} {hf : Bool → Hs} {T T' : Nat}
theorem u_Ok.mono {Z : Hst} {h : Hs} (O : u_Ok Z h T) (le : T ≤ T') : u_Ok Z h T' := ⟨O.hk, fun b => by have := O.z b; omega⟩
theorem u_Two.go (I : u_Two Zf st md S Lf Mf hf T) (i : Bool) {L' : HL} {M' : u_ML} {h' : Hs} (U : Stp S (u_C (Zf i) (Lf i) (Mf i) (hf i) (hf i)) S' (u_C (Zf i) L' M' h' h')) (eL : L'.st = (Lf i).st) (eM : M'.o = (Mf i).o) (O : u_Ok (Zf i) h' T') (le : T ≤ T') :
    u_Two Zf st md S' (u_upd Lf i L') (u_upd Mf i M') (u_upd hf i h') T' := by
  have l0 : 0 < S.length := (List.getElem?_eq_some_iff.mp I.c).1
  have other : ∀ j, j ≠ i → u_C (Zf j) (u_upd Lf i L' j) (u_upd Mf i M' j) (u_upd hf i h' j) (u_upd hf i h' j) = u_C (Zf j) (Lf j) (Mf j) (hf j) (hf j) := fun j hj => by rw [u_upd_ne hj, u_upd_ne hj, u_upd_ne hj]
  have self : u_C (Zf i) (u_upd Lf i L' i) (u_upd Mf i M' i) (u_upd hf i h' i) (u_upd hf i h' i) = u_C (Zf i) L' M' h' h' := by rw [u_upd_self, u_upd_self, u_upd_self]
  refine ⟨(U.fr 0 l0 (I.z i)).trans I.c, fun j => ?_, fun j => ?_, fun j => ?_, fun j k hjk a ha => ?_, fun j => ?_, fun j => ?_, U.nl I.nl⟩
  · by_cases e : j = i
    · rw [e, self]; exact U.at_
    · rw [other j e]; exact U.other (I.a j) (I.d j i e)
  · by_cases e : j = i
    · rw [e, u_upd_self, eL]; exact I.sE i
    · rw [u_upd_ne e]; exact I.sE j
  · by_cases e : j = i
    · rw [e, u_upd_self, eM]; exact I.mE i
    · rw [u_upd_ne e]; exact I.mE j
  · by_cases e : j = i
    · have ek : k ≠ i := fun z => hjk (e.trans z.symm)
      rw [e, self] at ha
      rw [other k ek]
      intro hb
      rcases U.fp a ha with q | q
      · exact I.d i k (Ne.symm ek) a q hb
      · have := (I.a k).lt hb; omega
    · rw [other j e] at ha
      by_cases ek : k = i
      · rw [ek, self]
        intro hb
        rcases U.fp a hb with q | q
        · exact I.d j i e a ha q
        · have := (I.a j).lt ha; omega
      · rw [other k ek]
        exact I.d j k hjk a ha
  · by_cases e : j = i
    · rw [e, self]
      intro hb
      rcases U.fp 0 hb with q | q
      · exact I.z i q
      · omega
    · rw [other j e]; exact I.z j
  · by_cases e : j = i
    · rw [e, u_upd_self]; exact O
    · rw [u_upd_ne e]; exact (I.ok j).mono le
theorem u_Two.same (I : u_Two Zf st md S Lf Mf hf T) (i : Bool) (U : Stp S (u_C (Zf i) (Lf i) (Mf i) (hf i) (hf i)) S' (u_C (Zf i) (Lf i) (Mf i) (hf i) (hf i))) : u_Two Zf st md S' Lf Mf hf T := by
  have := I.go i U rfl rfl (I.ok i) (Nat.le_refl _)
  have e : ∀ {α : Type} (f : Bool → α), u_upd f i (f i) = f := fun f => by
    funext j
    unfold u_upd
    split
    · rename_i q; rw [q]
    · rfl
  rw [e, e, e] at this
  exact this
end
theorem u_forV {n : Nat} {g : DG} {body : DS} {m i : Nat} {ρ ρ1 ρ2 : Ev} {S S1 S2 : Sto} {ds : List DV} {d : DV} (hn : S[n]? = some (.lst ds)) (hd : ds[i]? = some d) (hg : g d ρ S = some (ρ1, S1)) (hb : body ρ1 S1 = some (.nx ρ2 S2)) : forV n g body (m + 1) i ρ S = forV n g body m (i + 1) ρ2 S2 := by
  conv => lhs; unfold forV
  simp only [asL_loc hn, hd, hg, hb]
theorem u_forVe {n : Nat} {g : DG} {body : DS} {m i : Nat} {ρ : Ev} {S : Sto} {ds : List DV} (hn : S[n]? = some (.lst ds)) (hd : ds[i]? = none) : forV n g body (m + 1) i ρ S = some (.nx ρ S) := by
  unfold forV
  simp only [asL_loc hn, hd]
/-- a store, made, with its model -/
theorem u_made {Z : Hst} (I : Z.In) (bz : Z.beg.length ≤ 5) (S : Sto) (nl : S.all notLok = true) :
    ∃ S1 S2 L M, F_Store_init [.loc S.length, Z.PD, bxD Z.beg] (S ++ [.ins "Store" []]) = some (.non, S1) ∧ L.st = S.length ∧ F_law_model [Z.PD, bxD Z.beg] S1 = some (.loc M.o, S2) ∧ Stp S [] S2 (u_C Z L M Z.init Z.init) ∧ u_Ok Z Z.init 0 := by
  obtain ⟨S1, L, e1, T1, eo⟩ := s_made Z I.zs (by omega) S
  obtain ⟨S2, M, e2, T2⟩ := u_model Z (by have := I.cz; omega) (by have := I.sz; omega) (fun s hs => by have := I.sv s hs; omega) (by omega) S1
  refine ⟨S1, S2, L, M, e1, eo, e2, T1.trans (T2.beside T1.at_), rfl, fun b => ?_⟩
  cases b
  · refine ⟨?_, Nat.zero_le _⟩
    show (Z.beg.map fun x => (x, (0 : Int))).length ≤ 10
    rw [List.length_map]; omega
  · exact ⟨Nat.zero_le _, Nat.zero_le _⟩
abbrev u_N (Sc : DV) (x2 x3 x4 x5 x6 x7 x8 : Option DV) : List (Option DV) := [some Sc, some (.loc 0), x2, x3, x4, x5, x6, x7, x8]
abbrev u_L1 : DS := dSeq (dSet 4 (dPrim (cP (pureOf F_law_program) []) (aCons (dPrim (cP (pureOf F_law_cell) []) (aCons (dVar 0) (aCons (dBin pMul (dC (.int 2)) (dVar 2)) aNil))) (aCons (dPrim (cP (pureOf F_law_cell) []) (aCons (dVar 0) (aCons (dBin pAdd (dBin pMul (dC (.int 2)) (dVar 2)) (dC (.int 1))) aNil))) aNil))))
  (dSeq (dSet 3 (dPrim (cP (pureOf F_law_cell) []) (aCons (dVar 0) (aCons (dBin pAdd (dC (.int 4)) (dVar 2)) aNil))))
  (dSeq (dSet 5 (dPrim pTuple (aCons (dPrim pSorted (aCons (dLc (iRange1 (aCons (dPrim (cP (pureOf F_law_part) []) (aCons (dVar 3) (aCons (dC (.int 2)) (aCons (dC (.int 6)) aNil)))) aNil)) (gSet 8) (dC (.bl true)) (dPrim (cP (pureOf F_law_name) []) (aCons (dVar 3) (aCons (dVar 8) aNil))) [8]) aNil)) aNil)))
  (dSeq (dSet 6 (dMake "Store" F_Store_init [] (aCons (dVar 4) (aCons (dVar 5) aNil))))
  (dSeq (dSet 7 (dPrim (cS F_law_model []) (aCons (dVar 4) (aCons (dVar 5) aNil))))
  (dSeq (dIfS (dNot (dPrim (cS F_law_told []) (aCons (dVar 6) (aCons (dVar 4) (aCons (dVar 7) aNil))))) (dRet (dC (.bl false))) dNext)
  (dExpr (dMt pAppend (dVar 1) (aCons (dPrim pLst (aCons (dVar 6) (aCons (dVar 4) (aCons (dVar 7) aNil)))) aNil))))))))
theorem u_first (ns : List Int) (k : Nat) (hk : k < 2) (S : Sto) (nl : S.all notLok = true) {ds : List DV} (h0 : S[0]? = some (.lst ds)) (hds : ds.length ≤ 5) (x3 x4 x5 x6 x7 x8 : Option DV) :
    ∃ (Z : Hst) (S2 : Sto) (L : HL) (M : u_ML) (y3 y4 y5 y6 y7 y8 : Option DV), Z.In ∧ u_Nm Z ∧ u_Ok Z Z.init 0 ∧ Stp S [] S2 (u_C Z L M Z.init Z.init) ∧ S2[0]? = some (.lst ds) ∧ S2.all notLok = true ∧ S.length ≤ S2.length ∧
      u_L1 (u_N (.lst .ext (ns.map DV.int)) (some (.int (k : Nat))) x3 x4 x5 x6 x7 x8) S = some (.nx (u_N (.lst .ext (ns.map DV.int)) (some (.int (k : Nat))) y3 y4 y5 y6 y7 y8) (S2.set 0 (.lst (ds ++ [.lst .own [.loc L.st, Z.PD, .loc M.o]])))) := by
  let Sc : DV := .lst .ext (ns.map DV.int)
  have pSc : plain Sc = true := by show plainL (ns.map .int) = true; exact plainL_ints
  let N (x3 x4 x5 x6 x7 x8 : Option DV) := u_N Sc (some (.int (k : Nat))) x3 x4 x5 x6 x7 x8
  obtain ⟨a, ha⟩ := w_cell .ext ns (2 * k) (by omega)
  obtain ⟨b, hb⟩ := w_cell .ext ns (2 * k + 1) (by omega)
  obtain ⟨c, hc⟩ := w_cell .ext ns (4 + k) (by omega)
  obtain ⟨nc, nsh, nc8, ns4, hp⟩ := u_program a b
  have p6 := w_pt_in (c := c) (j := 2) (m := 6) (by decide)
  obtain ⟨m, hm⟩ : ∃ m : Nat, w_pt c 2 6 = (m : Nat) := ⟨(w_pt c 2 6).toNat, by omega⟩
  let bl : List Str := (List.range m).map (w_nm c)
  have bll : bl.length = m := by show ((List.range m).map _).length = m; rw [List.length_map, List.length_range]
  let beg : List Str := sortS bl
  have begl : beg.length ≤ 5 := by rw [(sortS_perm bl).length_eq, bll]; omega
  let Z := u_Z a b nc nsh beg
  have I : Z.In := u_In nc8 ns4
  have KN : u_Nm Z := u_zn
  have cellE : ∀ (i : Nat) {x : Int} {e : DE} {ρ : List (Option DV)} {S : Sto}, pureOf F_law_cell [Sc, .int (i : Nat)] = some (.int x) → dVar 0 ρ S = some (Sc, S) → e ρ S = some (.int (i : Nat), S) → dPrim (cP (pureOf F_law_cell) []) (aCons (dVar 0) (aCons e aNil)) ρ S = some (.int x, S) := fun i {x e ρ S} hx h0 he => callPP (args2 h0 he) (by show (plain Sc && true) = true; rw [pSc]; rfl) hx
  have k2 : ∀ {ρ : List (Option DV)} {S : Sto}, dVar 2 ρ S = some (.int (k : Nat), S) → dBin pMul (dC (.int 2)) (dVar 2) ρ S = some (.int ((2 * k : Nat) : Int), S) := fun {ρ S} h => by
    rw [show ((2 * k : Nat) : Int) = 2 * (k : Int) by omega]
    exact bin_of (x := .int 2) rfl h (v_mulIl (by decide))
  let j4 : Option DV := some Z.PD
  let j3 : Option DV := some (.int c)
  let j5 : Option DV := some (bxD beg)
  have s4 : dSet 4 (dPrim (cP (pureOf F_law_program) []) (aCons (dPrim (cP (pureOf F_law_cell) []) (aCons (dVar 0) (aCons (dBin pMul (dC (.int 2)) (dVar 2)) aNil))) (aCons (dPrim (cP (pureOf F_law_cell) []) (aCons (dVar 0) (aCons (dBin pAdd (dBin pMul (dC (.int 2)) (dVar 2)) (dC (.int 1))) aNil))) aNil))) (N x3 x4 x5 x6 x7 x8) S = some (.nx (N x3 j4 x5 x6 x7 x8) S) := by
    refine set_of (callPP (args2 (cellE (2 * k) ha rfl (k2 rfl)) (cellE (2 * k + 1) hb rfl ?_)) rfl (hp beg))
    rw [show ((2 * k + 1 : Nat) : Int) = ((2 * k : Nat) : Int) + 1 by omega]
    exact addI_of (k2 rfl) (b := 1) rfl
  have s3 : dSet 3 (dPrim (cP (pureOf F_law_cell) []) (aCons (dVar 0) (aCons (dBin pAdd (dC (.int 4)) (dVar 2)) aNil))) (N x3 j4 x5 x6 x7 x8) S = some (.nx (N j3 j4 x5 x6 x7 x8) S) := by
    refine set_of (cellE (4 + k) hc rfl ?_)
    rw [show ((4 + k : Nat) : Int) = 4 + (k : Int) by omega]
    exact addI_of (a := 4) (b := (k : Nat)) rfl rfl
  have s5 : dSet 5 (dPrim pTuple (aCons (dPrim pSorted (aCons (dLc (iRange1 (aCons (dPrim (cP (pureOf F_law_part) []) (aCons (dVar 3) (aCons (dC (.int 2)) (aCons (dC (.int 6)) aNil)))) aNil)) (gSet 8) (dC (.bl true)) (dPrim (cP (pureOf F_law_name) []) (aCons (dVar 3) (aCons (dVar 8) aNil))) [8]) aNil)) aNil)) (N j3 j4 x5 x6 x7 x8) S = some (.nx (N j3 j4 j5 x6 x7 x8) S) := by
    have r : iRange1 (aCons (dPrim (cP (pureOf F_law_part) []) (aCons (dVar 3) (aCons (dC (.int 2)) (aCons (dC (.int 6)) aNil)))) aNil) (N j3 j4 x5 x6 x7 x8) S = some ((List.range m).map fun (i : Nat) => DV.int i, S) := by
      refine rgN_of (n := m) ?_ (by omega)
      rw [← hm]
      exact w_part_of (c := c) (j := 2) (m := 6) rfl rfl rfl (by decide)
    have l : dLc (iRange1 (aCons (dPrim (cP (pureOf F_law_part) []) (aCons (dVar 3) (aCons (dC (.int 2)) (aCons (dC (.int 6)) aNil)))) aNil)) (gSet 8) (dC (.bl true)) (dPrim (cP (pureOf F_law_name) []) (aCons (dVar 3) (aCons (dVar 8) aNil))) [8] (N j3 j4 x5 x6 x7 x8) S = some (.lst .own (bl.map .str), S) := by
      refine (dLc_of r (lc_all (D := fun (i : Nat) => DV.int i) (E := fun i => DV.str (w_nm c i)) (K := List.range m) fun i _ => ⟨N j3 j4 x5 x6 x7 (some (.int (i : Nat))), rfl, rfl, callPP (args2 (x := .int c) (y := .int (i : Nat)) rfl rfl) rfl (w_name c i)⟩) (size_ok (by rw [List.length_map, List.length_range]; omega))).trans ?_
      show some (DV.lst .own _, S) = some (DV.lst .own (((List.range m).map (w_nm c)).map .str), S)
      rw [List.map_map]; rfl
    exact set_of (tupL_of (k := .own) (xs := (sortS bl).map .str) (sortedL_of (k := .own) (l := bl) l (by omega)))
  obtain ⟨S1, S2, L, M, e6, eo, e7, T, O⟩ := u_made I begl S nl
  let j6 : Option DV := some (.loc L.st)
  let j7 : Option DV := some (.loc M.o)
  have s6 : dSet 6 (dMake "Store" F_Store_init [] (aCons (dVar 4) (aCons (dVar 5) aNil))) (N j3 j4 j5 x6 x7 x8) S = some (.nx (N j3 j4 j5 j6 x7 x8) S1) := by
    show _ = some (Out.nx (N j3 j4 j5 (some (.loc L.st)) x7 x8) S1)
    rw [eo]
    exact set_of (make_of (xs := [Z.PD, bxD Z.beg]) (args2 (x := Z.PD) (y := bxD beg) rfl rfl) e6)
  have s7 : dSet 7 (dPrim (cS F_law_model []) (aCons (dVar 4) (aCons (dVar 5) aNil))) (N j3 j4 j5 j6 x7 x8) S1 = some (.nx (N j3 j4 j5 j6 j7 x8) S2) := set_of (callS (args2 (x := Z.PD) (y := bxD beg) rfl rfl) e7)
  have n2 := T.nl nl
  obtain ⟨S3, e8, T3⟩ := u_told (u_zk I) O (by omega) T.at_ n2
  have c8 := not_of (a := true) (callS (args3 (f := dVar 6) (g := dVar 4) (h := dVar 7) (ρ := N j3 j4 j5 j6 j7 x8) (S := S2) (x := .loc L.st) (y := Z.PD) (z := .loc M.o) rfl rfl rfl) e8)
  have TT := T.trans T3
  have l0 : 0 < S.length := (List.getElem?_eq_some_iff.mp h0).1
  have g0 : S3[0]? = some (.lst ds) := (TT.fr 0 l0 (fun h => nomatch h)).trans h0
  refine ⟨Z, S3, L, M, j3, j4, j5, j6, j7, x8, I, KN, O, TT, g0, TT.nl nl, TT.len, (seq_nx s4).trans ((seq_nx s3).trans ((seq_nx s5).trans ((seq_nx s6).trans ((seq_nx s7).trans ((seq_nx ((ifS_f c8).trans rfl)).trans ?_)))))⟩
  refine append_of (f := dVar 1) (n := 0) (y := .lst .own [.loc L.st, Z.PD, .loc M.o]) rfl g0 (prim_of (args3 (x := .loc L.st) (y := Z.PD) (z := .loc M.o) rfl rfl rfl) ?_) (by omega)
  rw [v_pLst, if_pos (size_ok (by show 3 ≤ _; omega))]
abbrev u_dd : DS := dSeq (dAsg (dBin pIx (dVar 1) (dPrim (cP (pureOf F_law_part) []) (aCons (dVar 3) (aCons (dC (.int 7)) (aCons (dC (.int 2)) aNil))))) (gLstD 3 (gsCons (gSet 6) (gsCons (gSet 4) (gsCons (gSet 7) gsNil)))))
  (dIfS (dOr (dBin (pIs true) (dPrim (cS F_law_deed []) (aCons (dVar 6) (aCons (dVar 7) (aCons (dVar 3) aNil)))) (dC .non)) (dNot (dPrim (cS F_law_told []) (aCons (dVar 6) (aCons (dVar 4) (aCons (dVar 7) aNil)))))) (dRet (dC (.bl false))) dNext)
section
variable {Zf : Bool → Hst} {st md : Bool → Nat}
theorem u_deeds (K : ∀ i, u_Zk (Zf i)) (KN : ∀ i, u_Nm (Zf i)) {Sc : DV} (x2 x5 x8 : Option DV) : ∀ (zs : List Int) {S : Sto} {Lf : Bool → HL} {Mf : Bool → u_ML} {hf : Bool → Hs} {T : Nat} (x3 x4 x6 x7 : Option DV), u_Two Zf st md S Lf Mf hf T → T + zs.length ≤ 399 →
    ∃ S' Lf' Mf' hf' T' y3 y4 y6 y7, forL (gSet 3) u_dd (zs.map .int) (u_N Sc x2 x3 x4 x5 x6 x7 x8) S = some (.nx (u_N Sc x2 y3 y4 x5 y6 y7 x8) S') ∧ u_Two Zf st md S' Lf' Mf' hf' T' ∧ T' ≤ T + zs.length
  | [], S, Lf, Mf, hf, T, x3, x4, x6, x7, I, _ => ⟨S, Lf, Mf, hf, T, x3, x4, x6, x7, rfl, I, Nat.le_refl _⟩
  | z :: zs, S, Lf, Mf, hf, T, x3, x4, x6, x7, I, hT => by
    rw [List.length_cons] at hT ⊢
    have p7 := w_pt_in (c := z) (j := 7) (m := 2) (by decide)
    obtain ⟨i, hi⟩ : ∃ i : Bool, w_pt z 7 2 = (frN i : Nat) := by
      rcases (show w_pt z 7 2 = 0 ∨ w_pt z 7 2 = 1 by omega) with q | q
      · exact ⟨false, q⟩
      · exact ⟨true, q⟩
    let ρ0 := u_N Sc x2 (some (.int z)) x4 x5 x6 x7 x8
    let ρ := u_N Sc x2 (some (.int z)) (some (Zf i).PD) x5 (some (.loc (st i))) (some (.loc (md i))) x8
    have a1 : dAsg (dBin pIx (dVar 1) (dPrim (cP (pureOf F_law_part) []) (aCons (dVar 3) (aCons (dC (.int 7)) (aCons (dC (.int 2)) aNil))))) (gLstD 3 (gsCons (gSet 6) (gsCons (gSet 4) (gsCons (gSet 7) gsNil)))) ρ0 S = some (.nx ρ S) := by
      have wp := w_part_of (f := dVar 3) (g := dC (.int 7)) (e := dC (.int 2)) (ρ := ρ0) (S := S) (c := z) (j := 7) (m := 2) rfl rfl rfl (by decide)
      rw [hi] at wp
      have := bin_of (p := pIx) (f := dVar 1) (x := .loc 0) rfl wp (ix_loc I.c (d := u_e Zf st md i) (atD_nat (by cases i <;> rfl)))
      unfold dAsg
      rw [this]
      rfl
    obtain ⟨S1, L1, M1, h1, e1, U1, s1, m1, O1⟩ := u_deed (K i) (KN i) (I.ok i) (by omega) (I.a i) z
    have I1 := I.go i U1 s1 m1 O1 (Nat.le_succ T)
    have o1 := I1.ok i
    have A1 := I1.a i
    rw [u_upd_self, u_upd_self, u_upd_self] at A1
    rw [u_upd_self] at o1
    obtain ⟨S2, e2, U2⟩ := u_told (K i) o1 (by omega) A1 I1.nl
    have I2 : u_Two Zf st md S2 _ _ _ (T + 1) := I1.same i (by rw [u_upd_self, u_upd_self, u_upd_self]; exact U2)
    rw [I.sE i, I.mE i] at e1
    rw [s1, m1, I.sE i, I.mE i] at e2
    have c : dOr (dBin (pIs true) (dPrim (cS F_law_deed []) (aCons (dVar 6) (aCons (dVar 7) (aCons (dVar 3) aNil)))) (dC .non)) (dNot (dPrim (cS F_law_told []) (aCons (dVar 6) (aCons (dVar 4) (aCons (dVar 7) aNil))))) ρ S = some (.bl false, S2) :=
      or_f (bin_of (callS (args3 (x := .loc (st i)) (y := .loc (md i)) (z := .int z) rfl rfl rfl) e1) (y := .non) rfl rfl) (not_of (a := true) (callS (args3 (x := .loc (st i)) (y := (Zf i).PD) (z := .loc (md i)) rfl rfl rfl) e2))
    have b : u_dd ρ0 S = some (.nx ρ S2) := (seq_nx a1).trans ((ifS_f c).trans rfl)
    obtain ⟨S', Lf', Mf', hf', T', y3, y4, y6, y7, e, J, t⟩ := u_deeds K KN x2 x5 x8 zs (some (.int z)) (some (Zf i).PD) (some (.loc (st i))) (some (.loc (md i))) I2 (by omega)
    refine ⟨S', Lf', Mf', hf', T', y3, y4, y6, y7, ?_, J, by omega⟩
    rw [List.map_cons]
    unfold forL
    show (match u_dd ρ0 S with | some (.nx ρ2 S2) => _ | some (.ct ρ2 S2) => _ | some (.bk ρ2 S2) => _ | some (.rt v S2) => _ | none => _) = _
    rw [b]
    exact e
end
theorem law_true (ns : List Int) (hl : ns.length ≤ 63) : ∃ S', F_law [.lst .ext (ns.map DV.int)] [] = some (.bl true, S') := by
  let Sc : DV := .lst .ext (ns.map DV.int)
  let o : Option DV := none
  let S0 : Sto := [.lst []]
  have s1 : dSet 1 (dPrim pLstM aNil) [some Sc, o, o, o, o, o, o, o, o] [] = some (.nx (u_N Sc o o o o o o o) S0) := rfl
  obtain ⟨Z0, S1, L0, M0, a3, a4, a5, a6, a7, a8, I0, N0, O0, T0, c0, n0, l0, e0⟩ := u_first ns 0 (by decide) S0 rfl (ds := []) rfl (Nat.zero_le _) o o o o o o
  let S1' := S1.set 0 (.lst ([] ++ [.lst .own [.loc L0.st, Z0.PD, .loc M0.o]]))
  have z0 : 0 ∉ (u_C Z0 L0 M0 Z0.init Z0.init).map (·.1) := fun h => by
    rcases T0.fp 0 h with q | q
    · cases q
    · have : (1 : Nat) ≤ 0 := q; omega
  have len0 : 0 < S1.length := (List.getElem?_eq_some_iff.mp c0).1
  have A0 : AtS S1' (u_C Z0 L0 M0 Z0.init Z0.init) := T0.at_.ext fun a ha => List.getElem?_set_ne fun q => z0 (by rw [q]; exact ha)
  have c1 : S1'[0]? = some (.lst [.lst .own [.loc L0.st, Z0.PD, .loc M0.o]]) := List.getElem?_set_self len0
  have n1 : S1'.all notLok = true := all_set n0 rfl
  obtain ⟨Z1, S2, L1, M1, b3, b4, b5, b6, b7, b8, I1, N1, O1, T1, c2, n2, l2, e1⟩ := u_first ns 1 (by decide) S1' n1 c1 (by show 1 ≤ 5; omega) a3 a4 a5 a6 a7 a8
  let S2' := S2.set 0 (.lst ([.lst .own [.loc L0.st, Z0.PD, .loc M0.o]] ++ [.lst .own [.loc L1.st, Z1.PD, .loc M1.o]]))
  have len1 : 0 < S2.length := (List.getElem?_eq_some_iff.mp c2).1
  have l1' : S1'.length = S1.length := List.length_set
  have z1 : 0 ∉ (u_C Z1 L1 M1 Z1.init Z1.init).map (·.1) := fun h => by
    rcases T1.fp 0 h with q | q
    · cases q
    · omega
  have A0b : AtS S2 (u_C Z0 L0 M0 Z0.init Z0.init) := T1.other A0 (fun a _ h => nomatch h)
  let Zf : Bool → Hst := fun i => if i = true then Z1 else Z0
  let st : Bool → Nat := fun i => if i = true then L1.st else L0.st
  let md : Bool → Nat := fun i => if i = true then M1.o else M0.o
  have dis : ∀ a ∈ (u_C Z0 L0 M0 Z0.init Z0.init).map (·.1), a ∉ (u_C Z1 L1 M1 Z1.init Z1.init).map (·.1) := fun a ha hb => by
    rcases T1.fp a hb with q | q
    · cases q
    · have := A0.lt ha; omega
  have J : u_Two Zf st md S2' (fun i => if i = true then L1 else L0) (fun i => if i = true then M1 else M0) (fun i => if i = true then Z1.init else Z0.init) 0 := by
    refine ⟨List.getElem?_set_self len1, fun i => ?_, fun i => ?_, fun i => ?_, fun i j hij a ha => ?_, fun i => ?_, fun i => ?_, all_set n2 rfl⟩
    · cases i
      · exact A0b.ext fun a ha => List.getElem?_set_ne fun q => z0 (by rw [q]; exact ha)
      · exact T1.at_.ext fun a ha => List.getElem?_set_ne fun q => z1 (by rw [q]; exact ha)
    · cases i <;> rfl
    · cases i <;> rfl
    · cases i <;> cases j
      · exact absurd rfl hij
      · exact dis a ha
      · exact fun hb => dis a hb ha
      · exact absurd rfl hij
    · cases i
      · exact z0
      · exact z1
    · cases i
      · exact O0
      · exact O1
  have K : ∀ i, u_Zk (Zf i) := fun i => by
    cases i
    · exact u_zk I0
    · exact u_zk I1
  have KN : ∀ i, u_Nm (Zf i) := fun i => by
    cases i
    · exact N0
    · exact N1
  have s2 : dFor (iRange1 (aCons (dC (.int 2)) aNil)) (gSet 2) u_L1 (u_N Sc o o o o o o o) S0 = some (.nx (u_N Sc (some (.int ((1 : Nat) : Int))) b3 b4 b5 b6 b7 b8) S2') := by
    refine for_of (rgN_of (n := 2) rfl (by decide)) ?_
    show forL (gSet 2) u_L1 [.int ((0 : Nat) : Int), .int ((1 : Nat) : Int)] (u_N Sc o o o o o o o) S0 = _
    have g0 : gSet 2 (.int ((0 : Nat) : Int)) (u_N Sc o o o o o o o) S0 = some (u_N Sc (some (.int ((0 : Nat) : Int))) o o o o o o, S0) := rfl
    have g1 : gSet 2 (.int ((1 : Nat) : Int)) (u_N Sc (some (.int ((0 : Nat) : Int))) a3 a4 a5 a6 a7 a8) S1' = some (u_N Sc (some (.int ((1 : Nat) : Int))) a3 a4 a5 a6 a7 a8, S1') := rfl
    unfold forL
    simp only [g0]
    rw [e0]
    show forL (gSet 2) u_L1 [.int ((1 : Nat) : Int)] (u_N Sc (some (.int ((0 : Nat) : Int))) a3 a4 a5 a6 a7 a8) S1' = _
    unfold forL
    simp only [g1]
    rw [e1]
    rfl
  -- the deeds
  obtain ⟨zs, zl, ez⟩ : ∃ zs : List Int, zs.length ≤ 40 ∧ Dn.cutD (ns.map DV.int) (some (8 : Nat)) (some (48 : Nat)) = zs.map .int := by
    refine ⟨(ns.drop (min 8 ns.length)).take (min 48 ns.length - min 8 ns.length), by rw [List.length_take, List.length_drop]; omega, ?_⟩
    unfold Dn.cutD
    rw [HT.sIx_nat, HT.sIx_nat, List.length_map, List.map_take, List.map_drop]
  let ρ2 := u_N Sc (some (.int ((1 : Nat) : Int))) b3 b4 b5 b6 b7 b8
  have it : iSeq (dSl pSl (dVar 0) (oSome (dC (.int 8))) (oSome (dC (.int 48)))) ρ2 S2' = some (zs.map .int, S2') := iSeqL_of (k := .own) (by
    rw [← ez]; rfl)
  obtain ⟨S3, Lf, Mf, hf, T, y3, y4, y6, y7, e3, J3, t3⟩ := u_deeds K KN (Sc := Sc) (some (.int ((1 : Nat) : Int))) b5 b8 zs b3 b4 b6 b7 J (by omega)
  have s3 := for_of it e3
  -- the end
  let bV : DS := dIfS (dNot (dPrim (cS F_law_told []) (aCons (dVar 6) (aCons (dVar 4) (aCons (dVar 7) aNil))))) (dRet (dC (.bl false))) dNext
  let gV : DG := gLstD 3 (gsCons (gSet 6) (gsCons (gSet 4) (gsCons (gSet 7) gsNil)))
  have one : ∀ (i : Bool) {S : Sto} {Lf : Bool → HL} {Mf : Bool → u_ML} {hf : Bool → Hs} {T : Nat} {x4 x6 x7 : Option DV}, u_Two Zf st md S Lf Mf hf T → T ≤ 400 → ∃ S' ρ1, u_Two Zf st md S' Lf Mf hf T ∧ gV (u_e Zf st md i) (u_N Sc (some (.int ((1 : Nat) : Int))) y3 x4 b5 x6 x7 b8) S = some (ρ1, S) ∧ bV ρ1 S = some (.nx ρ1 S') ∧ ρ1 = u_N Sc (some (.int ((1 : Nat) : Int))) y3 (some (Zf i).PD) b5 (some (.loc (st i))) (some (.loc (md i))) b8 := fun i {S Lf Mf hf T x4 x6 x7} I hT => by
    obtain ⟨S', e, U⟩ := u_told (K i) (I.ok i) hT (I.a i) I.nl
    rw [I.sE i, I.mE i] at e
    exact ⟨S', _, I.same i U, rfl, (ifS_f (not_of (a := true) (callS (args3 (x := .loc (st i)) (y := (Zf i).PD) (z := .loc (md i)) rfl rfl rfl) e))).trans rfl, rfl⟩
  obtain ⟨S4, r4, J4, g4, e4, q4⟩ := one false (x4 := y4) (x6 := y6) (x7 := y7) J3 (by omega)
  rw [q4] at g4 e4
  obtain ⟨S5, r5, J5, g5, e5, q5⟩ := one true (x4 := some (Zf false).PD) (x6 := some (.loc (st false))) (x7 := some (.loc (md false))) J4 (by omega)
  have s4 : dForV (dVar 1) gV bV 100000 (u_N Sc (some (.int ((1 : Nat) : Int))) y3 y4 b5 y6 y7 b8) S3 = some (.nx r5 S5) := by
    show forV 0 gV bV (99999 + 1) 0 _ S3 = _
    rw [u_forV J3.c rfl g4 e4]
    show forV 0 gV bV (99998 + 1) 1 _ S4 = _
    rw [u_forV J4.c rfl g5 e5]
    show forV 0 gV bV (99997 + 1) 2 _ S5 = _
    exact u_forVe J5.c rfl
  exact ⟨S5, run_rt rfl ((seq_nx s1).trans ((seq_nx s2).trans ((seq_nx s3).trans ((seq_nx s4).trans (ret_of rfl)))))⟩
end Lk61

namespace Lk61
open PySem PySem.Spec PyProof.Rows L2 Dn
theorem walk_law {P : Program} {w : World} {K : PySem.W.Frag} {h : Heap} {mg : Str → Option Value} {f : Addr} (X : K.In h) (G : h.Ns mainGlobals mg) (hfa : mg ("law" : Str) = some (.ref f)) (c : He.SaysD fa fn K) (e : ex K = true) :
    ∃ fd : FuncData, (∀ (s : Shared) (v : Value), BindsTo s fd ⟨[v], []⟩ [("_law_script", v)]) ∧ ∀ base : Heap, K.In base → base.Ns mainGlobals mg → FnOk P w K mg base CX0 9 f fd ["_law_script"] (spS K 1 F_law) := by
  have Y : Fx K mg := ⟨⟨h, X, G⟩, c, e⟩
  obtain ⟨fd, FD⟩ := Y.c.def_ 22 (d := d_law) rfl
  have e0 := hfa.symm.trans (Y.glo 8)
  cases e0
  have b := FunD.bindsA (ps := ["_law_script"]) FD fun _ _ _ _ _ _ us hl => match us, hl with | [_], _ => rfl
  exact ⟨fd, fun s v => b s [v] rfl, fun base _ _ => ok_law_fn FD Y⟩
end Lk61
open PySem PySem.W PySem.Calls PyProof.Rows
set_option maxHeartbeats 0 in
theorem PySem.Challenge.cw_dimhouse_k61_what_stays_holds : PySem.Challenge.rw_dimhouse_k61_what_stays.Holds := by
  w_on; o_law
  refine HandSHeadRun.head_any (r := OpenLaw.row PySem.Challenge.rw_dimhouse_k61_what_stays) (q := view (OpenLaw.row PySem.Challenge.rw_dimhouse_k61_what_stays).prog [12]) (H := Lk61.hk) (ob := Lk61.ob) (M := 20000) (loose := Lk61.loose) (d := HandSHeadRun.topDef (OpenLaw.row PySem.Challenge.rw_dimhouse_k61_what_stays).prog 12) (kwd := []) Lk61.ob_eq
    (by kernel_rfl) (fun s => by kernel_rfl) Lk61.run (by kernel_rfl) (by kernel_rfl) (by kernel_rfl) (by rfl) (by first | assumption | decide +kernel) (by decide +kernel) ⟨rfl, rfl, rfl, rfl, rfl, by decide +kernel⟩ ?hw ?hc
  case hw => w_witness2
  case hc =>
    refine L2.walk_ofE (l := PySem.Challenge.rw_dimhouse_k61_what_stays) (n := 63) (k := 9) (x := "_law_script") (CX := L2.CX0) rfl (by decide) (by kernel_rfl) ⟨rfl, by decide, by decide⟩ ?F (fun _ _ _ _ z => z)
    intro w mg fa h Y G hmg0
    obtain ⟨K, KX, c, e⟩ := Y
    have hmg : mg ("law" : PySem.Str) = some (.ref fa) := by
      have e : (HandSHeadRun.topDef (OpenLaw.row PySem.Challenge.rw_dimhouse_k61_what_stays).prog 12).name = ("law" : PySem.Str) := by kernel_rfl
      rw [← e]
      exact hmg0
    obtain ⟨fd, hb, hF⟩ := Lk61.walk_law (P := (PySem.Challenge.rw_dimhouse_k61_what_stays).prog) (w := w) KX G hmg c e
    exact ⟨K, fd, Dn.spS K 1 Lk61.F_law, KX, hb, fun H a ns hl _ hS => Dn.spS_law hS (Lk61.law_true ns hl), hF⟩
