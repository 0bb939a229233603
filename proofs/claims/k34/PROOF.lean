import PyProof.Rows.All
import Wide.All
import OpenK.AllK
import Wide.FinOn
import HandS.ForMost
import HandS.HeadHook1
import KE.KDictCopyH
import HandS.Defaults
import HandS.TupAny
import HandS.IsInst
import HandS.Wide
import HandS.Style
import HandS.TupLen
import HandS.RevRange
import HandS.Deep
import HandS.RaiseMore
import HandS.Conv
import HandS.More
import HandS.Walk
import HandS.Rev
import HandS.Zip
import HandS.NoneIn
import HandS.SortInts
import KE.KStateDown
import HandS.HeadHook2
import HandS.Head0
import HandS.Head1
import HandS.Head2
import HandS.HeadEnd
import HandS.Words
import KE.GoesMore
import KE.GoesEnum
import HandS.Iter
import HandS.Text
import KE.OsArith
import HandS.TryOnly
import HandS.List
import HandS.Replace
import HandS.Set
import KE.KDictDisplayH
import HandS.Head3
import HandS.HeadHook3
import HandS.SetFor
import HandS.SetKeys
import PyProof.P3In
import PyProof.Rows.InDataRows
import PyProof.ListMulRoad
import PyProof.FactsAll.tuple_2
import HandS.TupMul
import PySem.Challenge.RW_dimhouse_k34_whole_spoilt_by_a_way
set_option Elab.async false
set_option linter.all false
set_option maxRecDepth 100000
set_option maxHeartbeats 0
/-! A denotation layer over the hand layer: data values, a store of cells, and one rule for each construct. -/
namespace Dn
open PySem L2

/-! ### values -/
inductive LK where
  | own | bor | ext
  deriving DecidableEq
inductive DV where
  | non | bl (b : Bool) | int (i : Int) | str (s : Str)
  | tup (xs : List DV)
  | tupx (xs : List DV)
  | lst (k : LK) (xs : List DV)
  | dik (k : LK) (ks : List Key) (vs : List DV)
  | dit (k : LK) (ks : List (List Key)) (vs : List DV)
  | loc (n : Nat)
/-- a cell of the store -/
inductive Cell where
  | lst (xs : List DV)
  | dik (ks : List Key) (vs : List DV)
  | dit (ks : List (List Key)) (vs : List DV)
  | ins (C : Str) (fs : List (Str × DV))
  | frz (d : DV)
  | lok (ks : List Key) (vs : List DV)
  | dlf (ks : List (Int × Bool)) (vs : List DV)
  | gone
abbrev Sto := List Cell
def Cell.live : Cell → Bool
  | .frz _ => false
  | .lok _ _ => false
  | .gone => false
  | _ => true
/-- where data lies: frozen objects G, borrowed ones B, the cells' addresses -/
structure Fm where
  K : PySem.W.Frag
  G : Hp
  B : Hp
  /-- protected: it stays, but no data leans on it -/
  P : Hp
  lm : List Addr
def Fm.free (F : Fm) (a : Addr) : Prop := F.B a = none ∧ F.P a = none

mutual
def Rel (F : Fm) : DV → V → Prop
  | .non, v => v = .non
  | .bl b, v => v = .bl b
  | .int i, v => v = .int i
  | .str s, v => v = .str s
  | .tup ds, v => ∃ a xs, v = .ref a ∧ F.G a = some (.tup xs) ∧ RelL F ds xs
  | .tupx ds, v => ∃ a xs, v = .ref a ∧ SqT F.K F.G a xs ∧ RelL F ds xs
  | .lst .own ds, v => ∃ a xs, v = .ref a ∧ F.G a = some (.lst xs) ∧ RelL F ds xs
  | .lst .bor ds, v => ∃ a xs, v = .ref a ∧ (F.B a = some (.lst xs) ∨ F.G a = some (.lst xs)) ∧ RelL F ds xs
  | .lst .ext ds, v => ∃ a xs, v = .ref a ∧ SqL F.K F.G a xs ∧ RelL F ds xs
  | .dik k ks ds, v => ∃ a xs, v = .ref a ∧ ks.length = ds.length ∧ (F.G a = some (.dK (ks.zip xs)) ∨ (k ≠ .own ∧ F.B a = some (.dK (ks.zip xs)))) ∧ RelL F ds xs
  | .dit k ks ds, v => ∃ a xs, v = .ref a ∧ ks.length = ds.length ∧ (F.G a = some (.dT (ks.zip xs)) ∨ (k ≠ .own ∧ F.B a = some (.dT (ks.zip xs)))) ∧ RelL F ds xs
  | .loc n, v => ∃ a, F.lm[n]? = some a ∧ v = .ref a
def RelL (F : Fm) : List DV → List V → Prop
  | [], xs => xs = []
  | d :: ds, xs => ∃ x r, xs = x :: r ∧ Rel F d x ∧ RelL F ds r
end

structure Le (F F' : Fm) : Prop where
  k : F'.K = F.K
  b : F'.B = F.B
  p : F'.P = F.P
  g : Same F.G F'.G
  n : ∀ a o, F'.G a = some o → F.G a = some o ∨ F.free a
  m : F.lm <+: F'.lm
theorem Le.refl (F : Fm) : Le F F := ⟨rfl, rfl, rfl, Same.refl _, fun _ _ h => .inl h, List.prefix_refl _⟩
theorem Le.trans {F F1 F2 : Fm} (a : Le F F1) (b : Le F1 F2) : Le F F2 :=
  ⟨b.k.trans a.k, b.b.trans a.b, b.p.trans a.p, a.g.trans b.g, fun x o h => (b.n x o h).elim (fun h => a.n x o h) fun h => .inr ⟨by rw [← a.b]; exact h.1, by rw [← a.p]; exact h.2⟩, a.m.trans b.m⟩
theorem prefix_get {α : Type} {l l' : List α} (h : l <+: l') {n : Nat} {a : α} (e : l[n]? = some a) : l'[n]? = some a := by
  obtain ⟨t, rfl⟩ := h
  rw [List.getElem?_append_left (List.getElem?_eq_some_iff.mp e).1]
  exact e
theorem sqL_same {K : PySem.W.Frag} {H H' : Hp} {a : Addr} {xs : List V} (e : Same H H') (h : SqL K H a xs) : SqL K H' a xs := e.seq h
theorem sqT_same {K : PySem.W.Frag} {H H' : Hp} {a : Addr} {xs : List V} (e : Same H H') (h : SqT K H a xs) : SqT K H' a xs := by
  rcases h with h | h
  · rcases h with h | ⟨o, h⟩
    · exact .inl (.inl (e _ _ h))
    · exact .inl (.inr ⟨o, e _ _ h⟩)
  · exact .inr h

/-- monotone in all but what is put in and taken out -/
structure Wk (F F' : Fm) : Prop where
  k : F'.K = F.K
  b : Same F.B F'.B
  g : Same F.G F'.G
  m : F.lm <+: F'.lm
theorem Le.wk {F F' : Fm} (h : Le F F') : Wk F F' := ⟨h.k, by rw [h.b]; exact Same.refl _, h.g, h.m⟩
mutual
theorem Rel.wk {F F' : Fm} (w : Wk F F') : ∀ (d : DV) (v : V), Rel F d v → Rel F' d v
  | .non, v, h => h
  | .bl b, v, h => h
  | .int i, v, h => h
  | .str s, v, h => h
  | .tup ds, v, h => by
    obtain ⟨a, xs, e, hs, hl⟩ := h
    exact ⟨a, xs, e, w.g _ _ hs, RelL.wk w ds xs hl⟩
  | .tupx ds, v, h => by
    obtain ⟨a, xs, e, hs, hl⟩ := h
    exact ⟨a, xs, e, by rw [w.k]; exact sqT_same w.g hs, RelL.wk w ds xs hl⟩
  | .lst .own ds, v, h => by
    obtain ⟨a, xs, e, hs, hl⟩ := h
    exact ⟨a, xs, e, w.g _ _ hs, RelL.wk w ds xs hl⟩
  | .lst .bor ds, v, h => by
    obtain ⟨a, xs, e, hs, hl⟩ := h
    exact ⟨a, xs, e, hs.elim (fun h => .inl (w.b _ _ h)) fun h => .inr (w.g _ _ h), RelL.wk w ds xs hl⟩
  | .lst .ext ds, v, h => by
    obtain ⟨a, xs, e, hs, hl⟩ := h
    exact ⟨a, xs, e, by rw [w.k]; exact sqL_same w.g hs, RelL.wk w ds xs hl⟩
  | .dik k ks ds, v, h => by
    obtain ⟨a, xs, e, hn, hs, hl⟩ := h
    exact ⟨a, xs, e, hn, hs.elim (fun h => .inl (w.g _ _ h)) fun h => .inr ⟨h.1, w.b _ _ h.2⟩, RelL.wk w ds xs hl⟩
  | .dit k ks ds, v, h => by
    obtain ⟨a, xs, e, hn, hs, hl⟩ := h
    exact ⟨a, xs, e, hn, hs.elim (fun h => .inl (w.g _ _ h)) fun h => .inr ⟨h.1, w.b _ _ h.2⟩, RelL.wk w ds xs hl⟩
  | .loc n, v, h => by
    obtain ⟨a, e, hv⟩ := h
    exact ⟨a, prefix_get w.m e, hv⟩
theorem RelL.wk {F F' : Fm} (w : Wk F F') : ∀ (ds : List DV) (xs : List V), RelL F ds xs → RelL F' ds xs
  | [], xs, h => h
  | d :: ds, xs, h => by
    obtain ⟨x, r, e, h1, h2⟩ := h
    exact ⟨x, r, e, Rel.wk w d x h1, RelL.wk w ds r h2⟩
end
theorem Rel.le {F F' : Fm} (w : Le F F') {d : DV} {v : V} (h : Rel F d v) : Rel F' d v := Rel.wk w.wk d v h
theorem RelL.le {F F' : Fm} (w : Le F F') {ds : List DV} {vs : List V} (h : RelL F ds vs) : RelL F' ds vs := RelL.wk w.wk ds vs h
theorem RelL.length {F : Fm} : ∀ {ds : List DV} {vs : List V}, RelL F ds vs → ds.length = vs.length
  | [], vs, h => by
    have e : vs = [] := h
    rw [e] <;> rfl
  | d :: ds, vs, h => by
    obtain ⟨x, r, rfl, _, h2⟩ := h
    rw [List.length_cons, List.length_cons, h2.length]
theorem RelL.nil {F : Fm} {vs : List V} (h : RelL F [] vs) : vs = [] := h
theorem RelL.cons {F : Fm} {d : DV} {v : V} {ds : List DV} {vs : List V} (h1 : Rel F d v) (h2 : RelL F ds vs) : RelL F (d :: ds) (v :: vs) := ⟨v, vs, rfl, h1, h2⟩
theorem RelL.get {F : Fm} : ∀ {ds : List DV} {vs : List V} {i : Nat} {d : DV}, RelL F ds vs → ds[i]? = some d → ∃ v, vs[i]? = some v ∧ Rel F d v
  | [], vs, i, d, h, e => by simp at e
  | d0 :: ds, vs, 0, d, h, e => by
    obtain ⟨x, r, rfl, h1, h2⟩ := h
    have e' : d0 = d := by simpa using e
    subst e'
    exact ⟨x, rfl, h1⟩
  | d0 :: ds, vs, i + 1, d, h, e => by
    obtain ⟨x, r, rfl, h1, h2⟩ := h
    obtain ⟨v, e1, e2⟩ := RelL.get (i := i) h2 (by simpa using e)
    exact ⟨v, by simpa using e1, e2⟩
theorem RelL.get' {F : Fm} {ds : List DV} {vs : List V} {i : Nat} {v : V} (h : RelL F ds vs) (e : vs[i]? = some v) : ∃ d, ds[i]? = some d ∧ Rel F d v := by
  have hl := h.length
  have hi := (List.getElem?_eq_some_iff.mp e).1
  obtain ⟨v', e1, e2⟩ := h.get (i := i) (d := ds[i]'(by omega)) (List.getElem?_eq_getElem (by omega))
  rw [e] at e1
  cases e1
  exact ⟨_, List.getElem?_eq_getElem (by omega), e2⟩
theorem RelL.append {F : Fm} : ∀ {ds es : List DV} {vs us : List V}, RelL F ds vs → RelL F es us → RelL F (ds ++ es) (vs ++ us)
  | [], es, vs, us, h, k => by
    have e : vs = [] := h
    rw [e]
    exact k
  | d :: ds, es, vs, us, h, k => by
    obtain ⟨x, r, rfl, h1, h2⟩ := h
    exact ⟨x, r ++ us, rfl, h1, RelL.append h2 k⟩
theorem RelL.set {F : Fm} {d : DV} {v : V} (r : Rel F d v) : ∀ {ds : List DV} {vs : List V} (i : Nat), RelL F ds vs → RelL F (ds.set i d) (vs.set i v)
  | [], vs, i, h => by
    have e : vs = [] := h
    rw [e]
    exact rfl
  | d0 :: ds, vs, 0, h => by
    obtain ⟨x, r', rfl, h1, h2⟩ := h
    exact ⟨v, r', rfl, r, h2⟩
  | d0 :: ds, vs, i + 1, h => by
    obtain ⟨x, r', rfl, h1, h2⟩ := h
    exact ⟨x, r'.set i v, rfl, h1, RelL.set r i h2⟩
theorem RelL.take {F : Fm} : ∀ {ds : List DV} {vs : List V} (n : Nat), RelL F ds vs → RelL F (ds.take n) (vs.take n)
  | [], vs, n, h => by
    have e : vs = [] := h
    rw [e, List.take_nil, List.take_nil]
    exact rfl
  | d0 :: ds, vs, 0, h => by
    rw [List.take_zero, List.take_zero]
    exact rfl
  | d0 :: ds, vs, n + 1, h => by
    obtain ⟨x, r', rfl, h1, h2⟩ := h
    exact ⟨x, r'.take n, rfl, h1, RelL.take n h2⟩
theorem RelL.drop {F : Fm} : ∀ {ds : List DV} {vs : List V} (n : Nat), RelL F ds vs → RelL F (ds.drop n) (vs.drop n)
  | [], vs, n, h => by
    have e : vs = [] := h
    rw [e, List.drop_nil, List.drop_nil]
    exact rfl
  | d0 :: ds, vs, 0, h => h
  | d0 :: ds, vs, n + 1, h => by
    obtain ⟨x, r', rfl, h1, h2⟩ := h
    exact RelL.drop n h2
theorem RelL.rev {F : Fm} : ∀ {ds : List DV} {vs : List V}, RelL F ds vs → RelL F ds.reverse vs.reverse
  | [], vs, h => by
    have e : vs = [] := h
    rw [e]
    exact rfl
  | d0 :: ds, vs, h => by
    obtain ⟨x, r', rfl, h1, h2⟩ := h
    rw [List.reverse_cons, List.reverse_cons]
    exact RelL.append (RelL.rev h2) ⟨x, [], rfl, h1, rfl⟩
theorem RelL.eraseIdx {F : Fm} : ∀ {ds : List DV} {vs : List V} (n : Nat), RelL F ds vs → RelL F (ds.eraseIdx n) (vs.eraseIdx n)
  | [], vs, n, h => by
    have e : vs = [] := h
    rw [e, List.eraseIdx_nil, List.eraseIdx_nil]
    exact rfl
  | d0 :: ds, vs, 0, h => by
    obtain ⟨x, r', rfl, h1, h2⟩ := h
    exact h2
  | d0 :: ds, vs, n + 1, h => by
    obtain ⟨x, r', rfl, h1, h2⟩ := h
    exact ⟨x, r'.eraseIdx n, rfl, h1, RelL.eraseIdx n h2⟩

/-! ### worlds -/
/-- a key (number, truth) -/
def lfK (k : Int × Bool) : List PySem.Leaf := [.num k.1, .num (if k.2 = true then 1 else 0)]
def lfD (k : Int × Bool) : DV := .tup [.int k.1, .bl k.2]
/-- an entry: the key, where its tuple stands, what is kept -/
abbrev LfE : Type := (Int × Bool) × Addr × V × Value
def LfE.raw (e : LfE) : List PySem.Leaf × Addr × Value := (lfK e.1, e.2.1, e.2.2.2)
def DLf (a : Addr) (xs : List (List PySem.Leaf × Addr × Value)) (h : Heap) : Prop :=
  (a == sysModules) = false ∧ xs.length ≤ sizeLine ∧ (xs.map (·.1)).Nodup ∧
    ∃ o es ep, h.get? a = some o ∧ o.ExactDict ∧ o.data = .dict es ep ∧ ∀ (P : Program) (w : World), es.toList = xs.map (entryOfKey (tupleKind (PySem.leafKind P w)))
def CellOk (F : Fm) (H : Hp) (a : Addr) : Cell → Prop
  | .lst ds => ∃ xs, H a = some (.lst xs) ∧ RelL F ds xs
  | .dik ks ds => ∃ xs, ks.length = ds.length ∧ H a = some (.dK (ks.zip xs)) ∧ RelL F ds xs
  | .dit ks ds => ∃ xs, ks.length = ds.length ∧ H a = some (.dT (ks.zip xs)) ∧ RelL F ds xs
  | .ins C fs => ∃ dx xs, H a = some (.ins (He.ga F.K C) dx ((fs.map (·.1)).zip xs)) ∧ RelL F (fs.map (·.2)) xs
  | .frz d => Rel F d (.ref a)
  | .lok ks ds => ∃ o xs, ks.length = ds.length ∧ F.P a = some (.frz o (.dK (ks.zip xs))) ∧ RelL F ds xs
  | .dlf ks ds => ∃ es : List LfE, H a = some (.ext (DLf a (es.map LfE.raw))) ∧ es.map (·.1) = ks ∧ RelL F (ks.map lfD) (es.map fun e => V.ref e.2.1) ∧ RelL F ds (es.map (·.2.2.1)) ∧ ∀ e ∈ es, RelV e.2.2.1 e.2.2.2
  | .gone => True
/-- what is locked stays locked -/
def PF (F F' : Fm) : Prop := ∀ a o u, F.P a = some (.frz o u) → F'.P a = some (.frz o u)
theorem Le.pf {F F' : Fm} (h : Le F F') : PF F F' := fun a o u e => by rw [h.p]; exact e
structure Rep (F : Fm) (S : Sto) (H : Hp) : Prop where
  g : Same F.G H
  b : Same F.B H
  p : Same F.P H
  tup : ∀ a xs, H a = some (.tup xs) → F.G a = some (.tup xs)
  len : F.lm.length = S.length
  cell : ∀ (n : Nat) (c : Cell) (a : Addr), S[n]? = some c → F.lm[n]? = some a → CellOk F H a c ∧ (c.live = true → F.G a = none ∧ F.free a)
  inj : ∀ (n m : Nat) (c c' : Cell) (a : Addr), S[n]? = some c → S[m]? = some c' → c.live = true → c'.live = true → F.lm[n]? = some a → F.lm[m]? = some a → n = m

theorem CellOk.wk {F F' : Fm} (w : Wk F F') (pf : PF F F') {H H' : Hp} {a : Addr} : ∀ {c : Cell}, CellOk F H a c → (c.live = true → H' a = H a) → CellOk F' H' a c
  | .lst ds, ⟨xs, e, r⟩, h => ⟨xs, (h rfl).trans e, RelL.wk w _ _ r⟩
  | .dik ks ds, ⟨xs, z, e, r⟩, h => ⟨xs, z, (h rfl).trans e, RelL.wk w _ _ r⟩
  | .dit ks ds, ⟨xs, z, e, r⟩, h => ⟨xs, z, (h rfl).trans e, RelL.wk w _ _ r⟩
  | .ins C fs, ⟨dx, xs, e, r⟩, h => ⟨dx, xs, by rw [w.k]; exact (h rfl).trans e, RelL.wk w _ _ r⟩
  | .frz d, r, _ => Rel.wk w _ _ r
  | .lok ks ds, ⟨o, xs, z, e, r⟩, _ => ⟨o, xs, z, pf _ _ _ e, RelL.wk w _ _ r⟩
  | .dlf ks ds, ⟨es, e, z, r1, r2, t⟩, h => ⟨es, (h rfl).trans e, z, RelL.wk w _ _ r1, RelL.wk w _ _ r2, t⟩
  | .gone, _, _ => trivial
theorem CellOk.some {F : Fm} {H : Hp} {a : Addr} : ∀ {c : Cell}, CellOk F H a c → c.live = true → ∃ o, H a = some o ∧ ∀ xs, o ≠ .tup xs
  | .lst ds, ⟨xs, e, r⟩, _ => ⟨_, e, fun _ q => nomatch q⟩
  | .dik ks ds, ⟨xs, z, e, r⟩, _ => ⟨_, e, fun _ q => nomatch q⟩
  | .dit ks ds, ⟨xs, z, e, r⟩, _ => ⟨_, e, fun _ q => nomatch q⟩
  | .ins C fs, ⟨dx, xs, e, r⟩, _ => ⟨_, e, fun _ q => nomatch q⟩
  | .frz d, r, h => nomatch h
  | .lok _ _, r, h => nomatch h
  | .dlf ks ds, ⟨es, e, z, r1, r2, t⟩, _ => ⟨_, e, fun _ q => nomatch q⟩
  | .gone, _, h => nomatch h
theorem Rep.at {F : Fm} {S : Sto} {H : Hp} (R : Rep F S H) {n : Nat} {c : Cell} (h : S[n]? = some c) : ∃ a, F.lm[n]? = some a ∧ CellOk F H a c ∧ (c.live = true → F.G a = none ∧ F.free a) := by
  have h1 := (List.getElem?_eq_some_iff.mp h).1
  have e : F.lm[n]? = some (F.lm[n]'(by rw [R.len]; exact h1)) := List.getElem?_eq_getElem _
  exact ⟨_, e, R.cell n c _ h e⟩
theorem same_new {H : Hp} {p : Addr} {o : HO} (h : H p = none) : Same H (upd H p o) := fun a u e => by
  rw [upd_ne (ne_of_none e h)]
  exact e
theorem same_mono {G H : Hp} (s : Same G H) {p : Addr} {o : HO} (h : G p = none) : Same G (upd H p o) := fun a u e => by
  rw [upd_ne (ne_of_none e h)]
  exact s _ _ e
theorem Same.none {G H : Hp} (s : Same G H) {p : Addr} (h : H p = none) : G p = none := s.free h

/-- a new frozen object -/
abbrev Fm.add (F : Fm) (p : Addr) (o : HO) : Fm := { F with G := upd F.G p o }
theorem Fm.add_le {F : Fm} {p : Addr} {o : HO} (h : F.G p = none) (hb : F.free p) : Le F (F.add p o) :=
  ⟨rfl, rfl, rfl, same_new h, fun a u e => by
    by_cases q : a = p
    · exact .inr (by rw [q]; exact hb)
    · have e2 : upd F.G p o a = some u := e
      rw [upd_ne q] at e2
      exact .inl e2, List.prefix_refl _⟩
theorem Rep.add {F : Fm} {S : Sto} {H : Hp} (R : Rep F S H) {p : Addr} {o : HO} (hp : H p = none) : Rep (F.add p o) S (upd H p o) ∧ Le F (F.add p o) := by
  have gp : F.G p = none := R.g.free hp
  have bp : F.free p := ⟨R.b.free hp, R.p.free hp⟩
  have le := Fm.add_le (F := F) (o := o) gp bp
  refine ⟨⟨fun a u e => ?_, same_mono R.b bp.1, same_mono R.p bp.2, fun a xs e => ?_, R.len, fun n c a h e => ?_, R.inj⟩, le⟩
  · by_cases q : a = p
    · subst q
      have e2 : upd F.G a o a = some u := e
      rw [upd_same] at e2 ⊢
      exact e2
    · have e2 : upd F.G p o a = some u := e
      rw [upd_ne q] at e2 ⊢
      exact R.g _ _ e2
  · show upd F.G p o a = _
    by_cases q : a = p
    · subst q
      rw [upd_same] at e ⊢
      exact e
    · rw [upd_ne q] at e ⊢
      exact R.tup _ _ e
  · obtain ⟨k1, k2⟩ := R.cell n c a h e
    refine ⟨k1.wk le.wk le.pf fun hl => ?_, fun hl => ?_⟩
    · obtain ⟨o', e', _⟩ := k1.some hl
      exact upd_ne (ne_of_none e' hp)
    · obtain ⟨o', e', _⟩ := k1.some hl
      refine ⟨?_, (k2 hl).2⟩
      show upd F.G p o a = none
      rw [upd_ne (ne_of_none e' hp)]
      exact (k2 hl).1
/-- a new object beside all this -/
theorem Rep.beside {F : Fm} {S : Sto} {H : Hp} (R : Rep F S H) {p : Addr} {o : HO} (hp : H p = none) (ht : ∀ xs, o ≠ .tup xs) : Rep F S (upd H p o) := by
  have gp : F.G p = none := R.g.free hp
  have bp : F.B p = none := R.b.free hp
  refine ⟨same_mono R.g gp, same_mono R.b bp, same_mono R.p (R.p.free hp), fun a xs e => ?_, R.len, fun n c a h e => ?_, R.inj⟩
  · by_cases q : a = p
    · subst q
      rw [upd_same] at e
      exact absurd (Option.some.inj e) (ht xs)
    · rw [upd_ne q] at e
      exact R.tup _ _ e
  · obtain ⟨k1, k2⟩ := R.cell n c a h e
    refine ⟨k1.wk (Le.refl F).wk (Le.refl F).pf fun hl => ?_, k2⟩
    obtain ⟨o', e', _⟩ := k1.some hl
    exact upd_ne (ne_of_none e' hp)
/-- a new cell for an object that is beside all this -/
abbrev Fm.cell (F : Fm) (p : Addr) : Fm := { F with lm := F.lm ++ [p] }
theorem Fm.cell_le (F : Fm) (p : Addr) : Le F (F.cell p) := ⟨rfl, rfl, rfl, Same.refl _, fun _ _ h => .inl h, List.prefix_append _ _⟩
theorem get_snoc {α : Type} {l : List α} {x y : α} {n : Nat} (h : (l ++ [x])[n]? = some y) : l[n]? = some y ∨ (n = l.length ∧ y = x) := by
  by_cases q : n < l.length
  · rw [List.getElem?_append_left q] at h
    exact .inl h
  · rw [List.getElem?_append_right (by omega)] at h
    by_cases q2 : n - l.length = 0
    · rw [q2] at h
      exact .inr ⟨by omega, (Option.some.inj h).symm⟩
    · rw [List.getElem?_eq_none (by simp; omega)] at h
      cases h
theorem Rep.cell_new {F : Fm} {S : Sto} {H : Hp} (R : Rep F S H) {p : Addr} {c : Cell} (hc : CellOk (F.cell p) H p c) (gp : F.G p = none) (bp : F.free p)
    (hn : ∀ (n : Nat) (c : Cell), S[n]? = some c → c.live = true → F.lm[n]? ≠ some p) : Rep (F.cell p) (S ++ [c]) H := by
  refine ⟨R.g, R.b, R.p, R.tup, by simp [R.len], fun n c' a h e => ?_, fun n m c1 c2 a h1 h2 l1 l2 e1 e2 => ?_⟩
  · rcases get_snoc h with h | ⟨hn2, hh⟩
    · have hlt := (List.getElem?_eq_some_iff.mp h).1
      have e' : F.lm[n]? = some a := by
        have e0 : (F.lm ++ [p])[n]? = some a := e
        rw [List.getElem?_append_left (by rw [R.len]; exact hlt)] at e0
        exact e0
      obtain ⟨k1, k2⟩ := R.cell n c' a h e'
      exact ⟨k1.wk (F.cell_le p).wk (F.cell_le p).pf fun _ => rfl, k2⟩
    · subst hh
      have e0 : (F.lm ++ [p])[n]? = some a := e
      rw [hn2, ← R.len] at e0
      simp at e0
      subst e0
      exact ⟨hc, fun _ => ⟨gp, bp⟩⟩
  · have r1 : ∀ {n : Nat} {c : Cell}, (S ++ [c])[n]? = some c → True := fun _ => trivial
    have e1' : (F.lm ++ [p])[n]? = some a := e1
    have e2' : (F.lm ++ [p])[m]? = some a := e2
    have old : ∀ {n : Nat} {c' : Cell}, S[n]? = some c' → (F.lm ++ [p])[n]? = some a → F.lm[n]? = some a := fun {n c'} h e0 => by
      rw [List.getElem?_append_left (by rw [R.len]; exact (List.getElem?_eq_some_iff.mp h).1)] at e0
      exact e0
    have new : ∀ {n : Nat}, n = S.length → (F.lm ++ [p])[n]? = some a → a = p := fun {n} h e0 => by
      rw [h, ← R.len] at e0
      simp at e0
      exact e0.symm
    rcases get_snoc h1 with h1 | ⟨h1, hh1⟩
    · rcases get_snoc h2 with h2 | ⟨h2, hh2⟩
      · exact R.inj n m c1 c2 a h1 h2 l1 l2 (old h1 e1') (old h2 e2')
      · have := new h2 e2'
        subst this
        exact absurd (old h1 e1') (hn n c1 h1 l1)
    · rcases get_snoc h2 with h2 | ⟨h2, hh2⟩
      · have := new h1 e1'
        subst this
        exact absurd (old h2 e2') (hn m c2 h2 l2)
      · rw [h1, h2]
theorem Rep.noCell {F : Fm} {S : Sto} {H : Hp} (R : Rep F S H) {p : Addr} (hp : H p = none) : ∀ (n : Nat) (c : Cell), S[n]? = some c → c.live = true → F.lm[n]? ≠ some p := fun n c h l e => by
  obtain ⟨k1, _⟩ := R.cell n c p h e
  obtain ⟨o, e', _⟩ := k1.some l
  rw [hp] at e'
  cases e'
theorem Rep.alloc {F : Fm} {S : Sto} {H : Hp} (R : Rep F S H) {p : Addr} {o : HO} {c : Cell} (hp : H p = none) (ht : ∀ xs, o ≠ .tup xs) (hc : CellOk (F.cell p) (upd H p o) p c) : Rep (F.cell p) (S ++ [c]) (upd H p o) :=
  (R.beside hp ht).cell_new hc (R.g.free hp) ⟨R.b.free hp, R.p.free hp⟩ (R.noCell hp)
/-- a live cell is written -/
theorem Rep.write {F : Fm} {S : Sto} {H : Hp} (R : Rep F S H) {n : Nat} {c c' : Cell} {a : Addr} {o : HO} (h : S[n]? = some c) (l : c.live = true) (e : F.lm[n]? = some a) (ht : ∀ xs, o ≠ .tup xs) (l' : c'.live = true)
    (hc : CellOk F (upd H a o) a c') : Rep F (S.set n c') (upd H a o) := by
  obtain ⟨k1, k2⟩ := R.cell n c a h e
  obtain ⟨ga, ba⟩ := k2 l
  obtain ⟨o0, e0, t0⟩ := k1.some l
  have hlt := (List.getElem?_eq_some_iff.mp h).1
  refine ⟨same_mono R.g ga, same_mono R.b ba.1, same_mono R.p ba.2, fun b xs q => ?_, by simp [R.len], fun m cm b hm em => ?_, fun m1 m2 c1 c2 b h1 h2 l1 l2 e1 e2 => ?_⟩
  · by_cases z : b = a
    · subst z
      rw [upd_same] at q
      exact absurd (Option.some.inj q) (ht xs)
    · rw [upd_ne z] at q
      exact R.tup _ _ q
  · by_cases z : m = n
    · subst z
      rw [List.getElem?_set_self hlt] at hm
      cases hm
      rw [e] at em
      cases em
      exact ⟨hc, fun _ => ⟨ga, ba⟩⟩
    · rw [List.getElem?_set_ne (fun q => z q.symm)] at hm
      obtain ⟨j1, j2⟩ := R.cell m cm b hm em
      refine ⟨j1.wk (Le.refl F).wk (Le.refl F).pf fun lm => ?_, j2⟩
      refine upd_ne fun q => ?_
      subst q
      exact z (R.inj m n cm c b hm h lm l em e)
  · have old : ∀ {m : Nat} {cm : Cell}, (S.set n c')[m]? = some cm → cm.live = true → ∃ cm', S[m]? = some cm' ∧ cm'.live = true := fun {m cm} hm lm => by
      by_cases z : m = n
      · subst z
        exact ⟨c, h, l⟩
      · rw [List.getElem?_set_ne (fun q => z q.symm)] at hm
        exact ⟨cm, hm, lm⟩
    obtain ⟨d1, x1, y1⟩ := old h1 l1
    obtain ⟨d2, x2, y2⟩ := old h2 l2
    exact R.inj m1 m2 d1 d2 b x1 x2 y1 y2 e1 e2
/-- a cell that dies -/
theorem Rep.kill {F : Fm} {S : Sto} {H : Hp} (R : Rep F S H) {n : Nat} {c' : Cell} (l' : c'.live = false) (hc : ∀ a, F.lm[n]? = some a → CellOk F H a c') : Rep F (S.set n c') H := by
  refine ⟨R.g, R.b, R.p, R.tup, by simp [R.len], fun m cm b hm em => ?_, fun m1 m2 c1 c2 b h1 h2 l1 l2 e1 e2 => ?_⟩
  · by_cases z : m = n
    · subst z
      have hlt := (List.getElem?_eq_some_iff.mp hm).1
      rw [List.length_set] at hlt
      rw [List.getElem?_set_self hlt] at hm
      cases hm
      exact ⟨hc b em, fun q => by rw [l'] at q; cases q⟩
    · rw [List.getElem?_set_ne (fun q => z q.symm)] at hm
      exact R.cell m cm b hm em
  · have old : ∀ {m : Nat} {cm : Cell}, (S.set n c')[m]? = some cm → cm.live = true → S[m]? = some cm := fun {m cm} hm lm => by
      by_cases z : m = n
      · subst z
        have hlt := (List.getElem?_eq_some_iff.mp hm).1
        rw [List.length_set] at hlt
        rw [List.getElem?_set_self hlt] at hm
        cases hm
        rw [l'] at lm
        cases lm
      · rw [List.getElem?_set_ne (fun q => z q.symm)] at hm
        exact hm
    exact R.inj m1 m2 c1 c2 b (old h1 l1) (old h2 l2) l1 l2 e1 e2
/-- a live cell is frozen -/
theorem Rep.freeze {F : Fm} {S : Sto} {H : Hp} (R : Rep F S H) {n : Nat} {c : Cell} {a : Addr} {o : HO} {d : DV} (h : S[n]? = some c) (l : c.live = true) (e : F.lm[n]? = some a) (ho : H a = some o)
    (hd : Rel (F.add a o) d (.ref a)) : Rep (F.add a o) (S.set n (.frz d)) H ∧ Le F (F.add a o) := by
  obtain ⟨k1, k2⟩ := R.cell n c a h e
  obtain ⟨ga, ba⟩ := k2 l
  have le := Fm.add_le (F := F) (o := o) ga ba
  have hlt := (List.getElem?_eq_some_iff.mp h).1
  refine ⟨⟨fun b u q => ?_, R.b, R.p, fun b xs q => ?_, by simp [R.len], fun m cm b hm em => ?_, fun m1 m2 c1 c2 b h1 h2 l1 l2 e1 e2 => ?_⟩, le⟩
  · by_cases z : b = a
    · subst z
      have q2 : upd F.G b o b = some u := q
      rw [upd_same] at q2
      rw [ho]
      exact q2
    · have q2 : upd F.G a o b = some u := q
      rw [upd_ne z] at q2
      exact R.g _ _ q2
  · show upd F.G a o b = _
    by_cases z : b = a
    · subst z
      rw [upd_same, ← ho]
      exact q
    · rw [upd_ne z]
      exact R.tup _ _ q
  · by_cases z : m = n
    · subst z
      rw [List.getElem?_set_self hlt] at hm
      cases hm
      have em' : F.lm[m]? = some b := em
      rw [e] at em'
      cases em'
      exact ⟨hd, fun q => nomatch q⟩
    · rw [List.getElem?_set_ne (fun q => z q.symm)] at hm
      obtain ⟨j1, j2⟩ := R.cell m cm b hm em
      refine ⟨j1.wk le.wk le.pf fun _ => rfl, fun lm => ⟨?_, (j2 lm).2⟩⟩
      show upd F.G a o b = none
      rw [upd_ne fun q => z (R.inj m n cm c a hm h lm l (by rw [← q]; exact em) e)]
      exact (j2 lm).1
  · have old : ∀ {m : Nat} {cm : Cell}, (S.set n (.frz d))[m]? = some cm → cm.live = true → S[m]? = some cm := fun {m cm} hm lm => by
      by_cases z : m = n
      · subst z
        rw [List.getElem?_set_self hlt] at hm
        cases hm
        cases lm
      · rw [List.getElem?_set_ne (fun q => z q.symm)] at hm
        exact hm
    exact R.inj m1 m2 c1 c2 b (old h1 l1) (old h2 l2) l1 l2 e1 e2
end Dn

namespace Dn
open PySem L2

/-! ### readings by denotations -/
abbrev Ev := List (Option DV)
abbrev DE := Ev → Sto → Option (DV × Sto)
abbrev DA := Ev → Sto → Option (List DV × Sto)
abbrev DG := DV → Ev → Sto → Option (Ev × Sto)
inductive Out where
  | nx (ρ : Ev) (S : Sto)
  | rt (d : DV) (S : Sto)
  | bk (ρ : Ev) (S : Sto)
  | ct (ρ : Ev) (S : Sto)
def Out.S : Out → Sto
  | .nx _ S => S
  | .rt _ S => S
  | .bk _ S => S
  | .ct _ S => S
abbrev DS := Ev → Sto → Option Out
structure RelE (F : Fm) (ρ : Ev) (σ : St) : Prop where
  len : ρ.length = σ.length
  at_ : ∀ (i : Nat) (d : DV), ρ[i]? = some (some d) → ∃ v, σ[i]? = some (some v) ∧ Rel F d v
theorem RelE.wk {F F' : Fm} (w : Wk F F') {ρ : Ev} {σ : St} (r : RelE F ρ σ) : RelE F' ρ σ := ⟨r.len, fun i d e => by
  obtain ⟨v, h1, h2⟩ := r.at_ i d e
  exact ⟨v, h1, Rel.wk w _ _ h2⟩⟩
theorem RelE.le {F F' : Fm} (w : Le F F') {ρ : Ev} {σ : St} (r : RelE F ρ σ) : RelE F' ρ σ := r.wk w.wk
theorem RelE.set {F : Fm} {ρ : Ev} {σ : St} (r : RelE F ρ σ) (i : Nat) {d : DV} {v : V} (h : Rel F d v) : RelE F (ρ.set i (some d)) (σ.set i (some v)) := by
  refine ⟨by simp [r.len], fun j e hj => ?_⟩
  by_cases q : j = i
  · subst q
    have hlt := (List.getElem?_eq_some_iff.mp hj).1
    rw [List.length_set] at hlt
    rw [List.getElem?_set_self hlt] at hj
    cases hj
    exact ⟨v, List.getElem?_set_self (by rw [← r.len]; exact hlt), h⟩
  · rw [List.getElem?_set_ne (fun z => q z.symm)] at hj
    rw [List.getElem?_set_ne (fun z => q z.symm)]
    exact r.at_ j e hj
theorem RelE.unset {F : Fm} {ρ : Ev} {σ : St} (r : RelE F ρ σ) (i : Nat) : RelE F (ρ.set i none) σ := by
  refine ⟨by simp [r.len], fun j e hj => ?_⟩
  by_cases q : j = i
  · subst q
    have hlt := (List.getElem?_eq_some_iff.mp hj).1
    rw [List.length_set] at hlt
    rw [List.getElem?_set_self hlt] at hj
    cases hj
  · rw [List.getElem?_set_ne (fun z => q z.symm)] at hj
    exact r.at_ j e hj

def PostE (F : Fm) (S : Sto) (d : DV) (Q : VK) : Prop := ∀ F' H' v, Le F F' → Rep F' S H' → Rel F' d v → Q v H'
def PostT (F : Fm) (S : Sto) (b : Bool) (Q : Bool → Hp → Prop) : Prop := ∀ F' H', Le F F' → Rep F' S H' → Q b H'
def PostA (F : Fm) (S : Sto) (ds : List DV) (Q : List V → Hp → Prop) : Prop := ∀ F' H' vs, Le F F' → Rep F' S H' → RelL F' ds vs → Q vs H'
def PostO (F : Fm) (D : Ends) (H : Hp) : Out → Prop
  | .nx ρ _ => ∀ σ, RelE F ρ σ → D.nx σ H
  | .rt d _ => ∀ v, Rel F d v → D.rt v H
  | .bk ρ _ => ∀ σ, RelE F ρ σ → D.bk σ H
  | .ct ρ _ => ∀ σ, RelE F ρ σ → D.ct σ H
def PostS (F : Fm) (o : Out) (D : Ends) : Prop := ∀ F' H', Le F F' → Rep F' o.S H' → PostO F' D H' o
theorem PostE.le {F F' : Fm} {S : Sto} {d : DV} {Q : VK} (h : PostE F S d Q) (w : Le F F') : PostE F' S d Q := fun F2 H2 v w2 => h F2 H2 v (w.trans w2)
theorem PostS.le {F F' : Fm} {o : Out} {D : Ends} (h : PostS F o D) (w : Le F F') : PostS F' o D := fun F2 H2 w2 => h F2 H2 (w.trans w2)
def rdE (K : PySem.W.Frag) (f : DE) : TE := fun σ H Q => ∃ F S ρ d S', F.K = K ∧ Rep F S H ∧ RelE F ρ σ ∧ f ρ S = some (d, S') ∧ PostE F S' d Q
def rdT (K : PySem.W.Frag) (f : DE) : TT := fun σ H Q => ∃ F S ρ b S', F.K = K ∧ Rep F S H ∧ RelE F ρ σ ∧ f ρ S = some (.bl b, S') ∧ PostT F S' b Q
def rdA (K : PySem.W.Frag) (f : DA) : TA := fun σ H Q => ∃ F S ρ ds S', F.K = K ∧ Rep F S H ∧ RelE F ρ σ ∧ f ρ S = some (ds, S') ∧ PostA F S' ds Q
def rdS (K : PySem.W.Frag) (f : DS) : TS := fun D σ H => ∃ F S ρ o, F.K = K ∧ Rep F S H ∧ RelE F ρ σ ∧ f ρ S = some o ∧ PostS F o D
def rdG (K : PySem.W.Frag) (g : DG) : TG := fun v σ H Q => ∃ F S ρ d ρ' S', F.K = K ∧ Rep F S H ∧ RelE F ρ σ ∧ Rel F d v ∧ g d ρ S = some (ρ', S') ∧ ∀ F' H' σ', Le F F' → Rep F' S' H' → RelE F' ρ' σ' → Q σ' H'
structure ED (X : Cx) (e : Expr) (f : DE) : Prop where
  pe : PE X e (rdE X.K f)
structure TD (X : Cx) (e : Expr) (f : DE) : Prop where
  pt : PT X e (rdT X.K f)
structure TDW (X : Cx) (e : Expr) (f : DE) : Prop where
  pw : PW X e (rdT X.K f)
structure AD (X : Cx) (es : List Expr) (f : DA) : Prop where
  pa : PA X es (rdA X.K f)
structure SD (X : Cx) (st : Stmt) (f : DS) : Prop where
  ps : PS X st (rdS X.K f)
structure SDs (X : Cx) (st : List Stmt) (f : DS) : Prop where
  ps : PSs X st (rdS X.K f)
structure GD (X : Cx) (e : Expr) (g : DG) : Prop where
  pg : PG X e (rdG X.K g)
section
variable {X : Cx} {e : Expr}
theorem ED.of {t : TE} {f : DE} (h : PE X e t) (m : ∀ F S H ρ σ d S' Q, F.K = X.K → Rep F S H → RelE F ρ σ → f ρ S = some (d, S') → PostE F S' d Q → t σ H Q) : ED X e f :=
  ⟨⟨fun pins s σ H Q I ⟨F, S, ρ, d, S', hk, R, r, hf, hq⟩ => h.run pins s σ H Q I (m F S H ρ σ d S' Q hk R r hf hq)⟩⟩
theorem TD.of {t : TT} {f : DE} (h : PT X e t) (m : ∀ F S H ρ σ b S' Q, F.K = X.K → Rep F S H → RelE F ρ σ → f ρ S = some (.bl b, S') → PostT F S' b Q → t σ H Q) : TD X e f :=
  ⟨⟨fun pins s σ H Q I ⟨F, S, ρ, d, S', hk, R, r, hf, hq⟩ => h.run pins s σ H Q I (m F S H ρ σ d S' Q hk R r hf hq)⟩⟩
theorem TDW.of {t : TT} {f : DE} (h : PW X e t) (m : ∀ F S H ρ σ b S' Q, F.K = X.K → Rep F S H → RelE F ρ σ → f ρ S = some (.bl b, S') → PostT F S' b Q → t σ H Q) : TDW X e f :=
  ⟨⟨fun whole pins s σ H Q I ⟨F, S, ρ, d, S', hk, R, r, hf, hq⟩ => h.run whole pins s σ H Q I (m F S H ρ σ d S' Q hk R r hf hq)⟩⟩
theorem AD.of {es : List Expr} {t : TA} {f : DA} (h : PA X es t) (m : ∀ F S H ρ σ d S' Q, F.K = X.K → Rep F S H → RelE F ρ σ → f ρ S = some (d, S') → PostA F S' d Q → t σ H Q) : AD X es f :=
  ⟨⟨fun pos pins s σ H Q I ⟨F, S, ρ, d, S', hk, R, r, hf, hq⟩ => h.run pos pins s σ H Q I (m F S H ρ σ d S' Q hk R r hf hq)⟩⟩
theorem SD.of {st : Stmt} {t : TS} {f : DS} (h : PS X st t) (m : ∀ F S H ρ σ o D, F.K = X.K → Rep F S H → RelE F ρ σ → f ρ S = some o → PostS F o D → t D σ H) : SD X st f :=
  ⟨⟨fun pins s σ H D I ⟨F, S, ρ, o, hk, R, r, hf, hq⟩ => h.run pins s σ H D I (m F S H ρ σ o D hk R r hf hq)⟩⟩
theorem SDs.of {st : List Stmt} {t : TS} {f : DS} (h : PSs X st t) (m : ∀ F S H ρ σ o D, F.K = X.K → Rep F S H → RelE F ρ σ → f ρ S = some o → PostS F o D → t D σ H) : SDs X st f :=
  ⟨⟨fun pins s σ H D I ⟨F, S, ρ, o, hk, R, r, hf, hq⟩ => h.run pins s σ H D I (m F S H ρ σ o D hk R r hf hq)⟩⟩
theorem GD.of {t : TG} {g : DG} (h : PG X e t) (m : ∀ F S H ρ σ d v ρ' S' Q, F.K = X.K → Rep F S H → RelE F ρ σ → Rel F d v → g d ρ S = some (ρ', S') → (∀ F' H' σ', Le F F' → Rep F' S' H' → RelE F' ρ' σ' → Q σ' H') → t v σ H Q) : GD X e g :=
  ⟨⟨fun pins s σ H v u Q I rv ⟨F, S, ρ, d, ρ', S', hk, R, r, rd, hf, hq⟩ => h.run pins s σ H v u Q I rv (m F S H ρ σ d v ρ' S' Q hk R r rd hf hq)⟩⟩
end
section
variable {K : PySem.W.Frag} {F : Fm} {S S' S1 : Sto} {H : Hp} {ρ : Ev} {σ : St} {d : DV} {Q : VK}
/-- a part is run: what is behind it -/
theorem rdE.go {f : DE} (hk : F.K = K) (R : Rep F S H) (r : RelE F ρ σ) (hf : f ρ S = some (d, S1)) (k : ∀ F' H' v, Le F F' → F'.K = K → Rep F' S1 H' → RelE F' ρ σ → Rel F' d v → Q v H') : rdE K f σ H Q :=
  ⟨F, S, ρ, d, S1, hk, R, r, hf, fun F' H' v le R' r' => k F' H' v le (le.k.trans hk) R' (r.le le) r'⟩
theorem rdT.go {f : DE} {b : Bool} {Q : Bool → Hp → Prop} (hk : F.K = K) (R : Rep F S H) (r : RelE F ρ σ) (hf : f ρ S = some (.bl b, S1)) (k : ∀ F' H', Le F F' → F'.K = K → Rep F' S1 H' → RelE F' ρ σ → Q b H') : rdT K f σ H Q :=
  ⟨F, S, ρ, b, S1, hk, R, r, hf, fun F' H' le R' => k F' H' le (le.k.trans hk) R' (r.le le)⟩
theorem rdA.go {f : DA} {ds : List DV} {Q : List V → Hp → Prop} (hk : F.K = K) (R : Rep F S H) (r : RelE F ρ σ) (hf : f ρ S = some (ds, S1)) (k : ∀ F' H' vs, Le F F' → F'.K = K → Rep F' S1 H' → RelE F' ρ σ → RelL F' ds vs → Q vs H') : rdA K f σ H Q :=
  ⟨F, S, ρ, ds, S1, hk, R, r, hf, fun F' H' v le R' r' => k F' H' v le (le.k.trans hk) R' (r.le le) r'⟩
end

/-! ### names, constants -/
section
variable {X : Cx} {e a b : Expr} {pos : Pos}
def dVar (i : Nat) : DE := fun ρ S => match ρ[i]? with
  | some (some d) => some (d, S)
  | _ => none
theorem dVar_some {i : Nat} {ρ : Ev} {S : Sto} {d : DV} {S' : Sto} (h : dVar i ρ S = some (d, S')) : ρ[i]? = some (some d) ∧ S' = S := by
  unfold dVar at h
  split at h
  · rename_i d' e
    cases h
    exact ⟨e, rfl⟩
  · cases h
theorem ed_var {i : Nat} (h : PE X e (tVar i)) : ED X e (dVar i) := .of h fun F S H ρ σ d S' Q hk R r hf hq => by
  obtain ⟨h1, rfl⟩ := dVar_some hf
  obtain ⟨v, e1, e2⟩ := r.at_ i d h1
  exact ⟨v, e1, hq F H v (.refl F) R e2⟩
def dC (d : DV) : DE := fun _ S => some (d, S)
theorem ed_c {d : DV} {v : V} (h : PE X e (tC v)) (hr : ∀ F : Fm, Rel F d v) : ED X e (dC d) := .of h fun F S H ρ σ d' S' Q hk R r hf hq => by
  have e : some (d, S) = some (d', S') := hf
  cases e
  exact hq F H v (.refl F) R (hr F)
theorem ed_int {i : Int} {j : Nat} : ED X (.Constant (.int i) j pos) (dC (.int i)) := ed_c pe_int fun _ => rfl
theorem ed_bl {i : Bool} {j : Nat} : ED X (.Constant (.bool i) j pos) (dC (.bl i)) := ed_c pe_bl fun _ => rfl
theorem ed_non {j : Nat} : ED X (.Constant .none j pos) (dC .non) := ed_c pe_non fun _ => rfl
theorem ed_str {i : Str} {j : Nat} : ED X (.Constant (.str i) j pos) (dC (.str i)) := ed_c pe_str fun _ => rfl

/-! ### operators -/
abbrev P1 := DV → Sto → Option (DV × Sto)
abbrev P2 := DV → DV → Sto → Option (DV × Sto)
abbrev PL := List DV → Sto → Option (DV × Sto)
def dUn (p : P1) (f : DE) : DE := fun ρ S => match f ρ S with
  | some (x, S1) => p x S1
  | none => none
def dBin (p : P2) (f g : DE) : DE := fun ρ S => match f ρ S with
  | some (x, S1) => (match g ρ S1 with
    | some (y, S2) => p x y S2
    | none => none)
  | none => none
def Ok1 (K : PySem.W.Frag) (p : P1) (r : V → Hp → VK → Prop) : Prop := ∀ F S H x vx d S' Q, F.K = K → Rep F S H → Rel F x vx → p x S = some (d, S') → PostE F S' d Q → r vx H Q
def Ok2 (K : PySem.W.Frag) (p : P2) (r : R2) : Prop := ∀ F S H x y vx vy d S' Q, F.K = K → Rep F S H → Rel F x vx → Rel F y vy → p x y S = some (d, S') → PostE F S' d Q → r vx vy H Q
def OkL (K : PySem.W.Frag) (p : PL) (r : List V → Hp → VK → Prop) : Prop := ∀ F S H xs vs d S' Q, F.K = K → Rep F S H → RelL F xs vs → p xs S = some (d, S') → PostE F S' d Q → r vs H Q
theorem dUn_some {p : P1} {f : DE} {ρ : Ev} {S : Sto} {z : DV × Sto} (h : dUn p f ρ S = some z) : ∃ x S1, f ρ S = some (x, S1) ∧ p x S1 = some z := by
  unfold dUn at h
  split at h
  · exact ⟨_, _, by assumption, h⟩
  · cases h
theorem dBin_some {p : P2} {f g : DE} {ρ : Ev} {S : Sto} {z : DV × Sto} (h : dBin p f g ρ S = some z) : ∃ x S1 y S2, f ρ S = some (x, S1) ∧ g ρ S1 = some (y, S2) ∧ p x y S2 = some z := by
  unfold dBin at h
  split at h
  · split at h
    · exact ⟨_, _, _, _, by assumption, by assumption, h⟩
    · cases h
  · cases h
theorem un_go {p : P1} {f : DE} {r : V → Hp → VK → Prop} (hp : Ok1 X.K p r) {F : Fm} {S S' : Sto} {H : Hp} {ρ : Ev} {σ : St} {d : DV} {Q : VK} (hk : F.K = X.K) (R : Rep F S H) (rr : RelE F ρ σ) (hf : dUn p f ρ S = some (d, S')) (hq : PostE F S' d Q) : tUn r (rdE X.K f) σ H Q := by
  obtain ⟨x, S1, h1, h2⟩ := dUn_some hf
  exact rdE.go hk R rr h1 fun F1 H1 v le hk1 R1 r1 rx => hp F1 S1 H1 x v d S' Q hk1 R1 rx h2 (hq.le le)
theorem bin_go {p : P2} {f g : DE} {r : R2} (hp : Ok2 X.K p r) {F : Fm} {S S' : Sto} {H : Hp} {ρ : Ev} {σ : St} {d : DV} {Q : VK} (hk : F.K = X.K) (R : Rep F S H) (rr : RelE F ρ σ) (hf : dBin p f g ρ S = some (d, S')) (hq : PostE F S' d Q) : tOp r (rdE X.K f) (rdE X.K g) σ H Q := by
  obtain ⟨x, S1, y, S2, h1, h2, h3⟩ := dBin_some hf
  exact rdE.go hk R rr h1 fun F1 H1 v le hk1 R1 r1 rx => rdE.go hk1 R1 r1 h2 fun F2 H2 u le2 hk2 R2 r2 ry => hp F2 S2 H2 x y v u d S' Q hk2 R2 (rx.le le2) ry h3 (hq.le (le.trans le2))
theorem ed_bin {op : Operator} {r : R2} {p : P2} {f g : DE} (ho : OpR X (binaryOp op) r) (hp : Ok2 X.K p r) (ha : ED X a f) (hb : ED X b g) : ED X (.BinOp a op b pos) (dBin p f g) :=
  .of (pe_op ho ha.pe hb.pe) fun F S H ρ σ d S' Q hk R rr hf hq => bin_go hp hk R rr hf hq
theorem ed_un {op : UnaryOp} {r : V → Hp → VK → Prop} {p : P1} {f : DE} (ho : UnR X (unaryOp op) r) (hp : Ok1 X.K p r) (ha : ED X a f) : ED X (.UnaryOp op a pos) (dUn p f) :=
  .of (pe_un ho ha.pe) fun F S H ρ σ d S' Q hk R rr hf hq => un_go hp hk R rr hf hq
theorem ed_cmp {op : CmpOp} {r : R2} {p : P2} {f g : DE} (ho : OpR X (compareOp op) r) (hp : Ok2 X.K p r) (ha : ED X a f) (hb : ED X b g) (hm : behindInMarks op b = false) : ED X (.Compare a [op] [b] pos) (dBin p f g) :=
  .of (pe_cmpR ho ha.pe hb.pe hm) fun F S H ρ σ d S' Q hk R rr hf hq => bin_go hp hk R rr hf hq
theorem td_cmp {op : CmpOp} {r : R2} {p : P2} {f g : DE} (ho : OpR X (compareOp op) r) (hp : Ok2 X.K p r) (ha : ED X a f) (hb : ED X b g) (hm : behindInMarks op b = false) : TD X (.Compare a [op] [b] pos) (dBin p f g) :=
  .of (pt_cmpR ho ha.pe hb.pe hm) fun F S H ρ σ d S' Q hk R rr hf hq => bin_go hp hk R rr hf fun F' H' v le R' rv => by
    have e : v = .bl d := rv
    exact ⟨d, e, hq F' H' le R'⟩
/-- a < b < c, b asked once -/
def dChain (p q : P2) (f g h : DE) : DE := fun ρ S => match f ρ S with
  | some (x, S1) => (match g ρ S1 with
    | some (y, S2) => (match p x y S2 with
      | some (.bl true, S3) => (match h ρ S3 with
        | some (z, S4) => q y z S4
        | none => none)
      | some (.bl false, S3) => some (.bl false, S3)
      | _ => none)
    | none => none)
  | none => none

/-! ### and, or, not, if else -/
def dAnd (f g : DE) : DE := fun ρ S => match f ρ S with
  | some (.bl true, S1) => g ρ S1
  | some (.bl false, S1) => some (.bl false, S1)
  | _ => none
def dOr (f g : DE) : DE := fun ρ S => match f ρ S with
  | some (.bl true, S1) => some (.bl true, S1)
  | some (.bl false, S1) => g ρ S1
  | _ => none
def dNot (f : DE) : DE := fun ρ S => match f ρ S with
  | some (.bl c, S1) => some (.bl (!c), S1)
  | _ => none
def dIf (c f g : DE) : DE := fun ρ S => match c ρ S with
  | some (.bl true, S1) => f ρ S1
  | some (.bl false, S1) => g ρ S1
  | _ => none
theorem dAnd_some {f g : DE} {ρ : Ev} {S : Sto} {z : DV × Sto} (h : dAnd f g ρ S = some z) : (∃ S1, f ρ S = some (.bl true, S1) ∧ g ρ S1 = some z) ∨ (∃ S1, f ρ S = some (.bl false, S1) ∧ z = (.bl false, S1)) := by
  unfold dAnd at h
  split at h
  · exact .inl ⟨_, by assumption, h⟩
  · exact .inr ⟨_, by assumption, (Option.some.inj h).symm⟩
  · cases h
theorem dOr_some {f g : DE} {ρ : Ev} {S : Sto} {z : DV × Sto} (h : dOr f g ρ S = some z) : (∃ S1, f ρ S = some (.bl true, S1) ∧ z = (.bl true, S1)) ∨ (∃ S1, f ρ S = some (.bl false, S1) ∧ g ρ S1 = some z) := by
  unfold dOr at h
  split at h
  · exact .inl ⟨_, by assumption, (Option.some.inj h).symm⟩
  · exact .inr ⟨_, by assumption, h⟩
  · cases h
theorem dNot_some {f : DE} {ρ : Ev} {S : Sto} {z : DV × Sto} (h : dNot f ρ S = some z) : ∃ c S1, f ρ S = some (.bl c, S1) ∧ z = (.bl (!c), S1) := by
  unfold dNot at h
  split at h
  · exact ⟨_, _, by assumption, (Option.some.inj h).symm⟩
  · cases h
theorem dIf_some {c f g : DE} {ρ : Ev} {S : Sto} {z : DV × Sto} (h : dIf c f g ρ S = some z) : (∃ S1, c ρ S = some (.bl true, S1) ∧ f ρ S1 = some z) ∨ (∃ S1, c ρ S = some (.bl false, S1) ∧ g ρ S1 = some z) := by
  unfold dIf at h
  split at h
  · exact .inl ⟨_, by assumption, h⟩
  · exact .inr ⟨_, by assumption, h⟩
  · cases h
variable {rest : List Expr} {f g : DE}
theorem td_val (h : ED X e f) (he : ∀ whole, isTrue e X.env whole = (do let v ← whole; standAt e.pos; holding [v] (truthy v)) := by intro _; rfl) : TD X e f :=
  .of (pt_val h.pe he) fun F S H ρ σ b S' Q hk R rr hf hq => rdE.go hk R rr hf fun F' H' v le _ R' _ rv => by
    have e : v = .bl b := rv
    exact ⟨b, e, hq F' H' le R'⟩
theorem TDW.td (h : TDW X e f) : TD X e f := ⟨h.pw.pt⟩
theorem tw_and1 (h : TD X a f) : TDW X (.BoolOp .And [a] pos) f := ⟨pw_and1 h.pt⟩
theorem tw_or1 (h : TD X a f) : TDW X (.BoolOp .Or [a] pos) f := ⟨pw_or1 h.pt⟩
theorem and_go {F : Fm} {S S' : Sto} {H : Hp} {ρ : Ev} {σ : St} {c : Bool} {Q : Bool → Hp → Prop} (hk : F.K = X.K) (R : Rep F S H) (rr : RelE F ρ σ) (hf : dAnd f g ρ S = some (.bl c, S')) (hq : PostT F S' c Q) : tAnd (rdT X.K f) (rdT X.K g) σ H Q := by
  rcases dAnd_some hf with ⟨S1, h1, h2⟩ | ⟨S1, h1, h2⟩
  · refine rdT.go hk R rr h1 fun F1 H1 le hk1 R1 r1 => ?_
    rw [if_pos rfl]
    exact rdT.go hk1 R1 r1 h2 fun F2 H2 le2 hk2 R2 _ => hq F2 H2 (le.trans le2) R2
  · cases h2
    refine rdT.go hk R rr h1 fun F1 H1 le hk1 R1 r1 => ?_
    rw [if_neg Bool.false_ne_true]
    exact hq F1 H1 le R1
theorem or_go {F : Fm} {S S' : Sto} {H : Hp} {ρ : Ev} {σ : St} {c : Bool} {Q : Bool → Hp → Prop} (hk : F.K = X.K) (R : Rep F S H) (rr : RelE F ρ σ) (hf : dOr f g ρ S = some (.bl c, S')) (hq : PostT F S' c Q) : tOr (rdT X.K f) (rdT X.K g) σ H Q := by
  rcases dOr_some hf with ⟨S1, h1, h2⟩ | ⟨S1, h1, h2⟩
  · cases h2
    refine rdT.go hk R rr h1 fun F1 H1 le hk1 R1 r1 => ?_
    rw [if_pos rfl]
    exact hq F1 H1 le R1
  · refine rdT.go hk R rr h1 fun F1 H1 le hk1 R1 r1 => ?_
    rw [if_neg Bool.false_ne_true]
    exact rdT.go hk1 R1 r1 h2 fun F2 H2 le2 hk2 R2 _ => hq F2 H2 (le.trans le2) R2
theorem tw_and (ha : TD X a f) (hb : TDW X (.BoolOp .And (b :: rest) pos) g) : TDW X (.BoolOp .And (a :: b :: rest) pos) (dAnd f g) :=
  .of (pw_and ha.pt hb.pw) fun F S H ρ σ c S' Q hk R rr hf hq => and_go hk R rr hf hq
theorem tw_or (ha : TD X a f) (hb : TDW X (.BoolOp .Or (b :: rest) pos) g) : TDW X (.BoolOp .Or (a :: b :: rest) pos) (dOr f g) :=
  .of (pw_or ha.pt hb.pw) fun F S H ρ σ c S' Q hk R rr hf hq => or_go hk R rr hf hq
theorem td_not (ha : TD X a f) : TD X (.UnaryOp .Not a pos) (dNot f) :=
  .of (pt_not ha.pt) fun F S H ρ σ c S' Q hk R rr hf hq => by
    obtain ⟨c', S1, h1, h2⟩ := dNot_some hf
    cases h2
    exact rdT.go hk R rr h1 fun F1 H1 le hk1 R1 r1 => hq F1 H1 le R1
theorem ed_one {op : BoolOp} (h : ED X a f) : ED X (.BoolOp op [a] pos) f := ⟨pe_one h.pe⟩
theorem ed_and (ha : ED X a f) (hb : ED X (.BoolOp .And (b :: rest) pos) g) : ED X (.BoolOp .And (a :: b :: rest) pos) (dAnd f g) :=
  .of (pe_and ha.pe hb.pe) fun F S H ρ σ d S' Q hk R rr hf hq => by
    rcases dAnd_some hf with ⟨S1, h1, h2⟩ | ⟨S1, h1, h2⟩
    · refine rdE.go hk R rr h1 fun F1 H1 v le hk1 R1 r1 rv => ⟨true, rv, ?_⟩
      rw [if_pos rfl]
      exact rdE.go hk1 R1 r1 h2 fun F2 H2 v le2 hk2 R2 _ rv => hq F2 H2 v (le.trans le2) R2 rv
    · cases h2
      refine rdE.go hk R rr h1 fun F1 H1 v le hk1 R1 r1 rv => ⟨false, rv, ?_⟩
      rw [if_neg Bool.false_ne_true]
      exact hq F1 H1 _ le R1 rfl
theorem ed_or (ha : ED X a f) (hb : ED X (.BoolOp .Or (b :: rest) pos) g) : ED X (.BoolOp .Or (a :: b :: rest) pos) (dOr f g) :=
  .of (pe_or ha.pe hb.pe) fun F S H ρ σ d S' Q hk R rr hf hq => by
    rcases dOr_some hf with ⟨S1, h1, h2⟩ | ⟨S1, h1, h2⟩
    · cases h2
      refine rdE.go hk R rr h1 fun F1 H1 v le hk1 R1 r1 rv => ⟨true, rv, ?_⟩
      rw [if_pos rfl]
      exact hq F1 H1 _ le R1 rfl
    · refine rdE.go hk R rr h1 fun F1 H1 v le hk1 R1 r1 rv => ⟨false, rv, ?_⟩
      rw [if_neg Bool.false_ne_true]
      exact rdE.go hk1 R1 r1 h2 fun F2 H2 v le2 hk2 R2 _ rv => hq F2 H2 v (le.trans le2) R2 rv
theorem ed_not (ha : ED X a f) : ED X (.UnaryOp .Not a pos) (dNot f) :=
  .of (pe_not ha.pe) fun F S H ρ σ d S' Q hk R rr hf hq => by
    obtain ⟨c', S1, h1, h2⟩ := dNot_some hf
    cases h2
    exact rdE.go hk R rr h1 fun F1 H1 v le hk1 R1 r1 rv => ⟨c', rv, hq F1 H1 _ le R1 rfl⟩
theorem ed_if {c : Expr} {h : DE} (hc : TD X c h) (ha : ED X a f) (hb : ED X b g) : ED X (.IfExp c a b pos) (dIf h f g) :=
  .of (pe_ifExp hc.pt ha.pe hb.pe) fun F S H ρ σ d S' Q hk R rr hf hq => by
    rcases dIf_some hf with ⟨S1, h1, h2⟩ | ⟨S1, h1, h2⟩
    · refine rdT.go hk R rr h1 fun F1 H1 le hk1 R1 r1 => ?_
      rw [if_pos rfl]
      exact rdE.go hk1 R1 r1 h2 fun F2 H2 v le2 hk2 R2 _ rv => hq F2 H2 v (le.trans le2) R2 rv
    · refine rdT.go hk R rr h1 fun F1 H1 le hk1 R1 r1 => ?_
      rw [if_neg Bool.false_ne_true]
      exact rdE.go hk1 R1 r1 h2 fun F2 H2 v le2 hk2 R2 _ rv => hq F2 H2 v (le.trans le2) R2 rv
theorem ed_chain {op op' : CmpOp} {r r' : R2} {p q : P2} {c : Expr} {h : DE} (ho : OpR X (compareOp op) r) (hp : Ok2 X.K p r) (ho' : OpR X (compareOp op') r') (hp' : Ok2 X.K q r') (ha : ED X a f) (hb : ED X b g) (hc : ED X c h)
    (hpe : ∀ {ta tb tc : TE}, PE X a ta → PE X b tb → PE X c tc → PE X e (tChain r r' ta tb tc)) : ED X e (dChain p q f g h) :=
  .of (hpe ha.pe hb.pe hc.pe) fun F S H ρ σ d S' Q hk R rr hf hq => by
    unfold dChain at hf
    split at hf
    · rename_i x S1 h1
      split at hf
      · rename_i y S2 h2
        refine rdE.go hk R rr h1 fun F1 H1 v le hk1 R1 r1 rx => rdE.go hk1 R1 r1 h2 fun F2 H2 u le2 hk2 R2 r2 ry => ?_
        split at hf
        · rename_i S3 h3
          refine hp F2 S2 H2 x y v u _ _ _ hk2 R2 (rx.le le2) ry h3 fun F3 H3 z le3 R3 rz => ⟨true, rz, ?_⟩
          rw [if_pos rfl]
          split at hf
          · rename_i z S4 h4
            exact rdE.go (le3.k.trans hk2) R3 (r2.le le3) h4 fun F4 H4 w le4 hk4 R4 r4 rw_ => hp' F4 S4 H4 y z u w d S' Q hk4 R4 (ry.le (le3.trans le4)) rw_ hf (hq.le (((le.trans le2).trans le3).trans le4))
          · cases hf
        · rename_i S3 h3
          cases hf
          refine hp F2 S2 H2 x y v u _ _ _ hk2 R2 (rx.le le2) ry h3 fun F3 H3 z le3 R3 rz => ⟨false, rz, ?_⟩
          rw [if_neg Bool.false_ne_true]
          exact hq F3 H3 _ ((le.trans le2).trans le3) R3 rfl
        · cases hf
      · cases hf
    · cases hf

/-! ### argument lists -/
def aNil : DA := fun _ S => some ([], S)
def aCons (f : DE) (g : DA) : DA := fun ρ S => match f ρ S with
  | some (x, S1) => (match g ρ S1 with
    | some (xs, S2) => some (x :: xs, S2)
    | none => none)
  | none => none
theorem aCons_some {f : DE} {g : DA} {ρ : Ev} {S : Sto} {z : List DV × Sto} (h : aCons f g ρ S = some z) : ∃ x S1 xs S2, f ρ S = some (x, S1) ∧ g ρ S1 = some (xs, S2) ∧ z = (x :: xs, S2) := by
  unfold aCons at h
  split at h
  · split at h
    · exact ⟨_, _, _, _, by assumption, by assumption, (Option.some.inj h).symm⟩
    · cases h
  · cases h
theorem ad_nil : AD X [] aNil := .of pa_nil fun F S H ρ σ d S' Q hk R rr hf hq => by
  cases (show some (([] : List DV), S) = some (d, S') from hf)
  exact hq F H [] (.refl F) R rfl
theorem ad_cons {es : List Expr} {g : DA} (ha : ED X e f) (hr : AD X es g) (hs : starEach (e :: es) X.env = (false, eval e X.env) :: starEach es X.env := by rfl) : AD X (e :: es) (aCons f g) :=
  .of (pa_cons ha.pe hr.pa hs) fun F S H ρ σ d S' Q hk R rr hf hq => by
    obtain ⟨x, S1, xs, S2, h1, h2, h3⟩ := aCons_some hf
    cases h3
    exact rdE.go hk R rr h1 fun F1 H1 v le hk1 R1 r1 rx => rdA.go hk1 R1 r1 h2 fun F2 H2 vs le2 hk2 R2 r2 ry => hq F2 H2 (v :: vs) (le.trans le2) R2 (.cons (rx.le le2) ry)
def dPrim (p : PL) (f : DA) : DE := fun ρ S => match f ρ S with
  | some (xs, S1) => p xs S1
  | none => none
theorem dPrim_some {p : PL} {f : DA} {ρ : Ev} {S : Sto} {z : DV × Sto} (h : dPrim p f ρ S = some z) : ∃ x S1, f ρ S = some (x, S1) ∧ p x S1 = some z := by
  unfold dPrim at h
  split at h
  · exact ⟨_, _, by assumption, h⟩
  · cases h
theorem prim_go {p : PL} {f : DA} {r : List V → Hp → VK → Prop} (hp : OkL X.K p r) {F : Fm} {S S' : Sto} {H : Hp} {ρ : Ev} {σ : St} {d : DV} {Q : VK} (hk : F.K = X.K) (R : Rep F S H) (rr : RelE F ρ σ) (hf : dPrim p f ρ S = some (d, S')) (hq : PostE F S' d Q) : rdA X.K f σ H fun vs H1 => r vs H1 Q := by
  obtain ⟨x, S1, h1, h2⟩ := dPrim_some hf
  exact rdA.go hk R rr h1 fun F1 H1 v le hk1 R1 r1 rx => hp F1 S1 H1 x v d S' Q hk1 R1 rx h2 (hq.le le)
/-- anything that asks an argument list, then r -/
theorem ed_prim {es : List Expr} {r : List V → Hp → VK → Prop} {p : PL} {fa : DA} (hpe : ∀ {t : TA}, PA X es t → PE X e (tCB r t)) (hp : OkL X.K p r) (ha : AD X es fa) : ED X e (dPrim p fa) :=
  .of (hpe ha.pa) fun F S H ρ σ d S' Q hk R rr hf hq => prim_go hp hk R rr hf hq

/-! ### tuples and lists written -/
def pTup : PL := fun xs S => if xs.length ≤ sizeLine then some (.tup xs, S) else none
def pLst : PL := fun xs S => if xs.length ≤ sizeLine then some (.lst .own xs, S) else none
def pLstM : PL := fun xs S => if xs.length ≤ sizeLine then some (.loc S.length, S ++ [.lst xs]) else none
theorem of_ite {α : Type} {c : Prop} [Decidable c] {x : Option α} {z : α} (h : (if c then x else none) = some z) : c ∧ x = some z := by
  split at h
  · exact ⟨by assumption, h⟩
  · cases h
theorem new_tup {F : Fm} {S : Sto} {H : Hp} {Q : VK} {ds : List DV} {vs : List V} (R : Rep F S H) (r : RelL F ds vs) (hq : PostE F S (.tup ds) Q) : ∀ p, H p = none → Q (.ref p) (upd H p (.tup vs)) := fun p hp => by
  obtain ⟨R', le⟩ := R.add (o := .tup vs) hp
  exact hq _ _ _ le R' ⟨p, vs, rfl, upd_same, r.le le⟩
theorem new_lst {F : Fm} {S : Sto} {H : Hp} {Q : VK} {ds : List DV} {vs : List V} (R : Rep F S H) (r : RelL F ds vs) (hq : PostE F S (.lst .own ds) Q) : ∀ p, H p = none → Q (.ref p) (upd H p (.lst vs)) := fun p hp => by
  obtain ⟨R', le⟩ := R.add (o := .lst vs) hp
  exact hq _ _ _ le R' ⟨p, vs, rfl, upd_same, r.le le⟩
theorem get_len {α : Type} (l : List α) (x : α) : (l ++ [x])[l.length]? = some x := by
  rw [List.getElem?_append_right (Nat.le_refl _), Nat.sub_self]
  rfl
theorem new_lstM {F : Fm} {S : Sto} {H : Hp} {Q : VK} {ds : List DV} {vs : List V} (R : Rep F S H) (r : RelL F ds vs) (hq : PostE F (S ++ [.lst ds]) (.loc S.length) Q) : ∀ p, H p = none → Q (.ref p) (upd H p (.lst vs)) := fun p hp => by
  have R' := R.alloc (o := .lst vs) (c := .lst ds) hp (fun _ q => nomatch q) ⟨vs, upd_same, r.le (F.cell_le p)⟩
  exact hq _ _ _ (F.cell_le p) R' ⟨p, by rw [← R.len]; exact get_len _ _, rfl⟩
theorem ed_tup {es : List Expr} {fa : DA} {x1} (ha : AD X es fa) : ED X (.Tuple es x1 pos) (dPrim pTup fa) :=
  .of (pe_tup ha.pa) fun F S H ρ σ d S' Q hk R rr hf hq => prim_go (r := fun xs H1 Q => xs.length ≤ sizeLine ∧ ∀ p, H1 p = none → Q (.ref p) (upd H1 p (.tup xs))) (fun F S H xs vs d S' Q hk R rl hp hq => by
    obtain ⟨h1, h2⟩ := of_ite hp
    cases h2
    exact ⟨by rw [← rl.length]; exact h1, new_tup R rl hq⟩) hk R rr hf hq
theorem ed_lst {es : List Expr} {fa : DA} (ha : AD X es fa) : ED X (.List es pos) (dPrim pLst fa) :=
  .of (pe_lst ha.pa) fun F S H ρ σ d S' Q hk R rr hf hq => prim_go (r := fun xs H1 Q => xs.length ≤ sizeLine ∧ ∀ p, H1 p = none → Q (.ref p) (upd H1 p (.lst xs))) (fun F S H xs vs d S' Q hk R rl hp hq => by
    obtain ⟨h1, h2⟩ := of_ite hp
    cases h2
    exact ⟨by rw [← rl.length]; exact h1, new_lst R rl hq⟩) hk R rr hf hq
theorem ed_lstM {es : List Expr} {fa : DA} (ha : AD X es fa) : ED X (.List es pos) (dPrim pLstM fa) :=
  .of (pe_lst ha.pa) fun F S H ρ σ d S' Q hk R rr hf hq => prim_go (r := fun xs H1 Q => xs.length ≤ sizeLine ∧ ∀ p, H1 p = none → Q (.ref p) (upd H1 p (.lst xs))) (fun F S H xs vs d S' Q hk R rl hp hq => by
    obtain ⟨h1, h2⟩ := of_ite hp
    cases h2
    exact ⟨by rw [← rl.length]; exact h1, new_lstM R rl hq⟩) hk R rr hf hq

/-! ### statements -/
variable {st : Stmt} {sts : List Stmt}
def dNext : DS := fun ρ S => some (.nx ρ S)
def dSeq (f g : DS) : DS := fun ρ S => match f ρ S with
  | some (.nx ρ' S') => g ρ' S'
  | o => o
theorem sds_nil : SDs X [] dNext := .of pss_nil fun F S H ρ σ o D hk R rr hf hq => by
  cases (show some (Out.nx ρ S) = some o from hf)
  exact hq F H (.refl F) R σ rr
theorem seq_go {f g : DS} {F : Fm} {S : Sto} {H : Hp} {ρ : Ev} {σ : St} {o : Out} {D : Ends} {K : PySem.W.Frag} (hk : F.K = K) (R : Rep F S H) (rr : RelE F ρ σ) (hf : dSeq f g ρ S = some o) (hq : PostS F o D) : tSeq (rdS K f) (rdS K g) D σ H := by
  unfold dSeq at hf
  split at hf
  · rename_i ρ' S' h1
    exact ⟨F, S, ρ, _, hk, R, rr, h1, fun F' H' le R' σ' r' => ⟨F', S', ρ', o, le.k.trans hk, R', r', hf, hq.le le⟩⟩
  · rename_i h1
    refine ⟨F, S, ρ, o, hk, R, rr, hf, fun F' H' le R' => ?_⟩
    have := hq F' H' le R'
    cases o with
    | nx ρ' S' => exact absurd hf (h1 ρ' S')
    | rt d S' => exact this
    | bk ρ' S' => exact this
    | ct ρ' S' => exact this
theorem sds_cons {f g : DS} (h : SD X st f) (hr : SDs X sts g) : SDs X (st :: sts) (dSeq f g) :=
  .of (pss_cons h.ps hr.ps) fun F S H ρ σ o D hk R rr hf hq => seq_go hk R rr hf hq
theorem sds_one {f : DS} (h : SD X st f) : SDs X [st] f := ⟨pss_one h.ps⟩
def dBreak : DS := fun ρ S => some (.bk ρ S)
def dCont : DS := fun ρ S => some (.ct ρ S)
theorem sd_pass : SD X (.Pass pos) dNext := .of ps_pass fun F S H ρ σ o D hk R rr hf hq => by
  cases (show some (Out.nx ρ S) = some o from hf)
  exact hq F H (.refl F) R σ rr
theorem sd_break : SD X (.Break pos) dBreak := .of ps_break fun F S H ρ σ o D hk R rr hf hq => by
  cases (show some (Out.bk ρ S) = some o from hf)
  exact hq F H (.refl F) R σ rr
theorem sd_continue : SD X (.Continue pos) dCont := .of ps_continue fun F S H ρ σ o D hk R rr hf hq => by
  cases (show some (Out.ct ρ S) = some o from hf)
  exact hq F H (.refl F) R σ rr
def dExpr (f : DE) : DS := fun ρ S => match f ρ S with
  | some (_, S') => some (.nx ρ S')
  | none => none
theorem sd_expr (h : ED X e f) (hs : swapsWith e none pos.line X.env = pure false := by rfl) : SD X (.Expr e pos) (dExpr f) :=
  .of (ps_expr h.pe hs) fun F S H ρ σ o D hk R rr hf hq => by
    unfold dExpr at hf
    split at hf
    · rename_i d S' h1
      cases hf
      exact rdE.go hk R rr h1 fun F1 H1 v le hk1 R1 r1 rv => hq F1 H1 le R1 σ r1
    · cases hf
def dRet (f : DE) : DS := fun ρ S => match f ρ S with
  | some (d, S') => some (.rt d S')
  | none => none
theorem sd_ret (h : ED X e f) : SD X (.Return (some e) pos) (dRet f) :=
  .of (ps_ret h.pe) fun F S H ρ σ o D hk R rr hf hq => by
    unfold dRet at hf
    split at hf
    · rename_i d S' h1
      cases hf
      exact rdE.go hk R rr h1 fun F1 H1 v le hk1 R1 r1 rv => hq F1 H1 le R1 v rv
    · cases hf
def dRetN : DS := fun _ S => some (.rt .non S)
theorem sd_retN : SD X (.Return none pos) dRetN := .of ps_retN fun F S H ρ σ o D hk R rr hf hq => by
  cases (show some (Out.rt .non S) = some o from hf)
  exact hq F H (.refl F) R .non rfl
def dIfS (c : DE) (f g : DS) : DS := fun ρ S => match c ρ S with
  | some (.bl true, S1) => f ρ S1
  | some (.bl false, S1) => g ρ S1
  | _ => none
theorem dIfS_some {c : DE} {f g : DS} {ρ : Ev} {S : Sto} {z : Out} (h : dIfS c f g ρ S = some z) : (∃ S1, c ρ S = some (.bl true, S1) ∧ f ρ S1 = some z) ∨ (∃ S1, c ρ S = some (.bl false, S1) ∧ g ρ S1 = some z) := by
  unfold dIfS at h
  split at h
  · exact .inl ⟨_, by assumption, h⟩
  · exact .inr ⟨_, by assumption, h⟩
  · cases h
theorem rdS.go {f : DS} {F : Fm} {S : Sto} {H : Hp} {ρ : Ev} {σ : St} {o : Out} {D : Ends} {K : PySem.W.Frag} (hk : F.K = K) (R : Rep F S H) (rr : RelE F ρ σ) (hf : f ρ S = some o) (hq : PostS F o D) : rdS K f D σ H := ⟨F, S, ρ, o, hk, R, rr, hf, hq⟩
theorem sd_if {c : Expr} {ss ts : List Stmt} {hc : DE} {f g : DS} (h1 : TD X c hc) (h2 : SDs X ss f) (h3 : SDs X ts g) : SD X (.If c ss ts pos) (dIfS hc f g) :=
  .of (ps_if h1.pt h2.ps h3.ps) fun F S H ρ σ o D hk R rr hf hq => by
    rcases dIfS_some hf with ⟨S1, h1, h2⟩ | ⟨S1, h1, h2⟩
    · refine rdT.go hk R rr h1 fun F1 H1 le hk1 R1 r1 => ?_
      rw [if_pos rfl]
      exact rdS.go hk1 R1 r1 h2 (hq.le le)
    · refine rdT.go hk R rr h1 fun F1 H1 le hk1 R1 r1 => ?_
      rw [if_neg Bool.false_ne_true]
      exact rdS.go hk1 R1 r1 h2 (hq.le le)

/-! ### targets -/
def gSet (i : Nat) : DG := fun d ρ S => some (ρ.set i (some d), S)
theorem gd_name {i : Nat} (h : PG X e (gName i)) : GD X e (gSet i) := .of h fun F S H ρ σ d v ρ' S' Q hk R rr rv hf hq => by
  cases (show some (ρ.set i (some d), S) = some (ρ', S') from hf)
  exact hq F H _ (.refl F) R (rr.set i rv)
abbrev DGs := List DV → Ev → Sto → Option (Ev × Sto)
def rdGs (K : PySem.W.Frag) (g : DGs) : TGs := fun vs σ H Q => ∃ F S ρ ds ρ' S', F.K = K ∧ Rep F S H ∧ RelE F ρ σ ∧ RelL F ds vs ∧ g ds ρ S = some (ρ', S') ∧ ∀ F' H' σ', Le F F' → Rep F' S' H' → RelE F' ρ' σ' → Q σ' H'
structure GDs (X : Cx) (es : List Expr) (g : DGs) : Prop where
  pg : PGs X es (rdGs X.K g)
theorem GDs.of {es : List Expr} {t : TGs} {g : DGs} (h : PGs X es t) (m : ∀ F S H ρ σ d v ρ' S' Q, F.K = X.K → Rep F S H → RelE F ρ σ → RelL F d v → g d ρ S = some (ρ', S') → (∀ F' H' σ', Le F F' → Rep F' S' H' → RelE F' ρ' σ' → Q σ' H') → t v σ H Q) : GDs X es g :=
  ⟨⟨fun pins s σ H v u Q I rv ⟨F, S, ρ, d, ρ', S', hk, R, r, rd, hf, hq⟩ => h.run pins s σ H v u Q I rv (m F S H ρ σ d v ρ' S' Q hk R r rd hf hq)⟩⟩
def gsNil : DGs := fun ds ρ S => match ds with
  | [] => some (ρ, S)
  | _ => none
def gsCons (g : DG) (h : DGs) : DGs := fun ds ρ S => match ds with
  | d :: r => (match g d ρ S with
    | some (ρ', S') => h r ρ' S'
    | none => none)
  | [] => none
theorem gds_nil : GDs X [] gsNil := .of pgs_nil fun F S H ρ σ d v ρ' S' Q hk R rr rv hf hq => by
  unfold gsNil at hf
  split at hf
  · cases hf
    exact ⟨rv.nil, hq F H σ (.refl F) R rr⟩
  · cases hf
theorem gds_cons {es : List Expr} {g : DG} {h : DGs} {t : TG} {u : TGs} (h1 : GD X e g) (h2 : GDs X es h) (hp : PGs X (e :: es) (gCons (rdG X.K g) (rdGs X.K h))) : GDs X (e :: es) (gsCons g h) :=
  .of hp fun F S H ρ σ d v ρ' S' Q hk R rr rv hf hq => by
    unfold gsCons at hf
    split at hf
    · rename_i d0 r
      obtain ⟨x, vr, rfl, rx, rl⟩ := rv
      split at hf
      · rename_i ρ1 S1 h1
        exact ⟨x, vr, rfl, F, S, ρ, d0, ρ1, S1, hk, R, rr, rx, h1, fun F1 H1 σ1 le R1 r1 => ⟨F1, S1, ρ1, r, ρ', S', le.k.trans hk, R1, r1, rl.le le, hf, fun F2 H2 σ2 le2 => hq F2 H2 σ2 (le.trans le2)⟩⟩
      · cases hf
    · cases hf
def gTupD (n : Nat) (h : DGs) : DG := fun d ρ S => match d with
  | .tup ds => if ds.length = n then h ds ρ S else none
  | _ => none
theorem gd_tup {n : Nat} {es : List Expr} {h : DGs} (h2 : GDs X es h) (hp : PG X e (gTup X.K n (rdGs X.K h))) : GD X e (gTupD n h) :=
  .of hp fun F S H ρ σ d v ρ' S' Q hk R rr rv hf hq => by
    unfold gTupD at hf
    split at hf
    · rename_i ds
      obtain ⟨hn, hf⟩ := of_ite hf
      obtain ⟨a, xs, rfl, hs, rl⟩ := rv
      exact ⟨a, xs, rfl, SqT.of (R.g _ _ hs), by rw [← rl.length]; exact hn, F, S, ρ, ds, ρ', S', hk, R, rr, rl, hf, hq⟩
    · cases hf
def dAsg (f : DE) (g : DG) : DS := fun ρ S => match f ρ S with
  | some (d, S1) => (match g d ρ S1 with
    | some (ρ', S2) => some (.nx ρ' S2)
    | none => none)
  | none => none
theorem asg_go {g : DG} {F : Fm} {S : Sto} {H : Hp} {ρ : Ev} {σ : St} {o : Out} {D : Ends} {K : PySem.W.Frag} (hk : F.K = K) (R : Rep F S H) (rr : RelE F ρ σ) (hf : dAsg f g ρ S = some o) (hq : PostS F o D) : tAsg (rdE K f) (rdG K g) D σ H := by
  unfold dAsg at hf
  split at hf
  · rename_i d S1 h1
    split at hf
    · rename_i ρ' S2 h2
      cases hf
      exact rdE.go hk R rr h1 fun F1 H1 v le hk1 R1 r1 rv => ⟨F1, S1, ρ, d, ρ', S2, hk1, R1, r1, rv, h2, fun F2 H2 σ2 le2 R2 r2 => hq F2 H2 (le.trans le2) R2 σ2 r2⟩
    · cases hf
  · cases hf
theorem sd_asg {g : DG} (h : PS X st (tAsg (rdE X.K f) (rdG X.K g))) : SD X st (dAsg f g) := .of h fun F S H ρ σ o D hk R rr hf hq => asg_go hk R rr hf hq
def dSet (i : Nat) (f : DE) : DS := fun ρ S => match f ρ S with
  | some (d, S1) => some (.nx (ρ.set i (some d)) S1)
  | none => none
theorem sd_set {i : Nat} (h : PS X st (tAsg (rdE X.K f) (gName i))) : SD X st (dSet i f) := .of h fun F S H ρ σ o D hk R rr hf hq => by
  unfold dSet at hf
  split at hf
  · rename_i d S1 h1
    cases hf
    exact rdE.go hk R rr h1 fun F1 H1 v le hk1 R1 r1 rv => hq F1 H1 le R1 _ (r1.set i rv)
  · cases hf

/-! ### loops -/
abbrev DI := Ev → Sto → Option (List DV × Sto)
def Walks (J : It) (F0 : Fm) (ds : List DV) : Prop := ∀ (i : Nat) F S H, Wk F0 F → PF F0 F → Rep F S H → (i = ds.length → J.stop i H) ∧ ∀ d, ds[i]? = some d → J.go i H ∧ ∀ x H', J.yld i H x H' → ∃ F', Le F F' ∧ Rep F' S H' ∧ Rel F' d x
def rdI (K : PySem.W.Frag) (f : DI) : TI := fun σ H R => ∃ F S ρ ds S', F.K = K ∧ Rep F S H ∧ RelE F ρ σ ∧ f ρ S = some (ds, S') ∧ ∀ J F' H', Le F F' → Rep F' S' H' → Walks J F' ds → R J H'
structure ID (X : Cx) (tg iter : Expr) (f : DI) : Prop where
  pi : PI X tg iter (rdI X.K f)
theorem ID.of {tg : Expr} {t : TI} {f : DI} (h : PI X tg e t) (m : ∀ F S H ρ σ ds S' Q, F.K = X.K → Rep F S H → RelE F ρ σ → f ρ S = some (ds, S') → (∀ J F' H', Le F F' → Rep F' S' H' → Walks J F' ds → Q J H') → t σ H Q) : ID X tg e f :=
  ⟨⟨fun pins s σ H Q I ⟨F, S, ρ, d, S', hk, R, r, hf, hq⟩ => h.run pins s σ H Q I (m F S H ρ σ d S' Q hk R r hf hq)⟩⟩
def forL (g : DG) (body : DS) : List DV → DS
  | [] => fun ρ S => some (.nx ρ S)
  | d :: ds => fun ρ S => match g d ρ S with
    | some (ρ1, S1) => (match body ρ1 S1 with
      | some (.nx ρ2 S2) => forL g body ds ρ2 S2
      | some (.ct ρ2 S2) => forL g body ds ρ2 S2
      | some (.bk ρ2 S2) => some (.nx ρ2 S2)
      | some (.rt v S2) => some (.rt v S2)
      | none => none)
    | none => none
def dFor (it : DI) (g : DG) (body : DS) : DS := fun ρ S => match it ρ S with
  | some (ds, S1) => forL g body ds ρ S1
  | none => none
theorem for_go {it : DI} {g : DG} {body : DS} {F : Fm} {S : Sto} {H : Hp} {ρ : Ev} {σ : St} {o : Out} {D : Ends} {K : PySem.W.Frag} (hk : F.K = K) (R : Rep F S H) (rr : RelE F ρ σ) (hf : dFor it g body ρ S = some o) (hq : PostS F o D) : tFor (rdI K it) (rdG K g) (rdS K body) D σ H := by
  unfold dFor at hf
  split at hf
  · rename_i ds S1 h1
    refine ⟨F, S, ρ, ds, S1, hk, R, rr, h1, fun J F1 H1 le1 R1 wk => ?_⟩
    refine ⟨fun i m σ H => i ≤ ds.length ∧ m = ds.length - i ∧ ∃ F' S' ρ', Le F1 F' ∧ Rep F' S' H ∧ RelE F' ρ' σ ∧ forL g body (ds.drop i) ρ' S' = some o, ⟨ds.length, Nat.zero_le _, rfl, F1, S1, ρ, .refl F1, R1, rr.le le1, by rw [List.drop_zero]; exact hf⟩, ?_⟩
    rintro i m σ H ⟨hi, rfl, F', S', ρ', le', R', r', hf'⟩
    obtain ⟨w1, w2⟩ := wk i F' S' H le'.wk le'.pf R'
    by_cases hlt : i < ds.length
    · refine .inr ?_
      have hd : ds[i]? = some ds[i] := List.getElem?_eq_getElem hlt
      obtain ⟨g1, g2⟩ := w2 _ hd
      rw [List.drop_eq_getElem_cons hlt] at hf'
      unfold forL at hf'
      refine ⟨g1, fun σ' H' => ∃ m', m' < ds.length - i ∧ (i + 1 ≤ ds.length ∧ m' = ds.length - (i + 1) ∧ ∃ F' S' ρ', Le F1 F' ∧ Rep F' S' H' ∧ RelE F' ρ' σ' ∧ forL g body (ds.drop (i + 1)) ρ' S' = some o), fun _ _ z => z, fun x H2 y => ?_⟩
      obtain ⟨F2, le2, R2, rx⟩ := g2 x H2 y
      split at hf'
      · rename_i ρ1 S3 hg
        refine ⟨F2, S', ρ', _, ρ1, S3, le2.k.trans (le'.k.trans (le1.k.trans hk)), R2, r'.le le2, rx, hg, fun F3 H3 σ3 le3 R3 r3 => ?_⟩
        have le03 : Le F1 F3 := (le'.trans le2).trans le3
        split at hf'
        · rename_i ρ2 S2 hb
          exact rdS.go (le3.k.trans (le2.k.trans (le'.k.trans (le1.k.trans hk)))) R3 r3 hb fun F4 H4 le4 R4 σ4 r4 => ⟨_, by omega, hlt, rfl, F4, S2, ρ2, le03.trans le4, R4, r4, hf'⟩
        · rename_i ρ2 S2 hb
          exact rdS.go (le3.k.trans (le2.k.trans (le'.k.trans (le1.k.trans hk)))) R3 r3 hb fun F4 H4 le4 R4 σ4 r4 => ⟨_, by omega, hlt, rfl, F4, S2, ρ2, le03.trans le4, R4, r4, hf'⟩
        · rename_i ρ2 S2 hb
          cases hf'
          exact rdS.go (le3.k.trans (le2.k.trans (le'.k.trans (le1.k.trans hk)))) R3 r3 hb fun F4 H4 le4 R4 σ4 r4 => hq F4 H4 (le1.trans (le03.trans le4)) R4 σ4 r4
        · rename_i v S2 hb
          cases hf'
          exact rdS.go (le3.k.trans (le2.k.trans (le'.k.trans (le1.k.trans hk)))) R3 r3 hb fun F4 H4 le4 R4 v rv => hq F4 H4 (le1.trans (le03.trans le4)) R4 v rv
        · cases hf'
      · cases hf'
    · have e : i = ds.length := by omega
      subst e
      rw [List.drop_length] at hf'
      cases (show some (Out.nx ρ' S') = some o from hf')
      exact .inl ⟨w1 rfl, hq F' H (le1.trans le') R' σ r'⟩
  · cases hf
theorem sd_for {it : DI} {g : DG} {body : DS} (h : PS X st (tFor (rdI X.K it) (rdG X.K g) (rdS X.K body))) : SD X st (dFor it g body) := .of h fun F S H ρ σ o D hk R rr hf hq => for_go hk R rr hf hq
def whileL (c : DE) (body : DS) : Nat → DS
  | 0 => fun _ _ => none
  | n + 1 => fun ρ S => match c ρ S with
    | some (.bl true, S1) => (match body ρ S1 with
      | some (.nx ρ2 S2) => whileL c body n ρ2 S2
      | some (.ct ρ2 S2) => whileL c body n ρ2 S2
      | some (.bk ρ2 S2) => some (.nx ρ2 S2)
      | some (.rt v S2) => some (.rt v S2)
      | none => none)
    | some (.bl false, S1) => some (.nx ρ S1)
    | _ => none
theorem while_go {c : DE} {body : DS} {n : Nat} {F : Fm} {S : Sto} {H : Hp} {ρ : Ev} {σ : St} {o : Out} {D : Ends} {K : PySem.W.Frag} (hk : F.K = K) (R : Rep F S H) (rr : RelE F ρ σ) (hf : whileL c body n ρ S = some o) (hq : PostS F o D) : tWhile (rdT K c) (rdS K body) D σ H := by
  refine ⟨fun m σ H => ∃ F' S' ρ', Le F F' ∧ Rep F' S' H ∧ RelE F' ρ' σ ∧ whileL c body m ρ' S' = some o, ⟨n, F, S, ρ, .refl F, R, rr, hf⟩, ?_⟩
  rintro m σ H ⟨F', S', ρ', le', R', r', hf'⟩
  cases m with
  | zero => cases hf'
  | succ m =>
    unfold whileL at hf'
    split at hf'
    · rename_i S1 h1
      refine rdT.go (le'.k.trans hk) R' r' h1 fun F1 H1 le1 hk1 R1 r1 => ?_
      rw [if_pos rfl]
      refine ⟨fun σ' H' => ∃ m', m' < m + 1 ∧ ∃ F' S' ρ', Le F F' ∧ Rep F' S' H' ∧ RelE F' ρ' σ' ∧ whileL c body m' ρ' S' = some o, fun _ _ z => z, ?_⟩
      split at hf'
      · rename_i ρ2 S2 hb
        exact rdS.go hk1 R1 r1 hb fun F4 H4 le4 R4 σ4 r4 => ⟨m, Nat.lt_succ_self _, F4, S2, ρ2, (le'.trans le1).trans le4, R4, r4, hf'⟩
      · rename_i ρ2 S2 hb
        exact rdS.go hk1 R1 r1 hb fun F4 H4 le4 R4 σ4 r4 => ⟨m, Nat.lt_succ_self _, F4, S2, ρ2, (le'.trans le1).trans le4, R4, r4, hf'⟩
      · rename_i ρ2 S2 hb
        cases hf'
        exact rdS.go hk1 R1 r1 hb fun F4 H4 le4 R4 σ4 r4 => hq F4 H4 ((le'.trans le1).trans le4) R4 σ4 r4
      · rename_i v S2 hb
        cases hf'
        exact rdS.go hk1 R1 r1 hb fun F4 H4 le4 R4 v rv => hq F4 H4 ((le'.trans le1).trans le4) R4 v rv
      · cases hf'
    · rename_i S1 h1
      cases hf'
      refine rdT.go (le'.k.trans hk) R' r' h1 fun F1 H1 le1 hk1 R1 r1 => ?_
      rw [if_neg Bool.false_ne_true]
      exact hq F1 H1 (le'.trans le1) R1 σ r1
    · cases hf'
theorem sd_while {c : DE} {body : DS} (n : Nat) (h : PS X st (tWhile (rdT X.K c) (rdS X.K body))) : SD X st (whileL c body n) := .of h fun F S H ρ σ o D hk R rr hf hq => while_go hk R rr hf hq
end
end Dn

namespace Dn
open PySem PySem.Spec PyProof.Rows L2

/-! ### copies: cells to values -/
mutual
def mapD (bor : Bool) (h : Nat → Option DV) : DV → Option DV
  | .loc n => h n
  | .tup ds => match mapDL bor h ds with
    | some es => some (.tup es)
    | none => none
  | .tupx ds => match mapDL bor h ds with
    | some es => some (.tupx es)
    | none => none
  | .lst k ds => if k = .bor ∧ bor = false then none else match mapDL bor h ds with
    | some es => some (.lst k es)
    | none => none
  | .dik k ks ds => if k ≠ .own ∧ bor = false then none else match mapDL bor h ds with
    | some es => some (.dik k ks es)
    | none => none
  | .dit k ks ds => if k ≠ .own ∧ bor = false then none else match mapDL bor h ds with
    | some es => some (.dit k ks es)
    | none => none
  | .non => some .non
  | .bl b => some (.bl b)
  | .int i => some (.int i)
  | .str s => some (.str s)
def mapDL (bor : Bool) (h : Nat → Option DV) : List DV → Option (List DV)
  | [] => some []
  | d :: ds => match mapD bor h d with
    | some e => (match mapDL bor h ds with
      | some es => some (e :: es)
      | none => none)
    | none => none
end
def bk (bor : Bool) : LK := if bor then .bor else .own
def cpN (bor : Bool) : Nat → Sto → Nat → Option DV
  | 0, _, _ => none
  | k + 1, S, n => match S[n]? with
    | some (.lst ds) => (match mapDL bor (cpN bor k S) ds with
      | some es => some (.lst (bk bor) es)
      | none => none)
    | some (.dik ks ds) => (match mapDL bor (cpN bor k S) ds with
      | some es => some (.dik (bk bor) ks es)
      | none => none)
    | some (.dit ks ds) => (match mapDL bor (cpN bor k S) ds with
      | some es => some (.dit (bk bor) ks es)
      | none => none)
    | some (.frz d) => mapD bor (cpN bor k S) d
    | _ => none
/-- as a value: borrowed (bor), or frozen -/
def cpD (bor : Bool) (S : Sto) (d : DV) : Option DV := mapD bor (cpN bor (S.length + 1) S) d
def cpL (bor : Bool) (S : Sto) (ds : List DV) : Option (List DV) := mapDL bor (cpN bor (S.length + 1) S) ds

structure CpTo (bor : Bool) (F F2 : Fm) : Prop where
  k : F2.K = F.K
  g : Same F.G F2.G
  b : bor = true → Same F.B F2.B
mutual
theorem mapD_rel {bor : Bool} {h : Nat → Option DV} {F F2 : Fm} (c : CpTo bor F F2) (hh : ∀ n d a, h n = some d → F.lm[n]? = some a → Rel F2 d (.ref a)) : ∀ (d d' : DV) (v : V), mapD bor h d = some d' → Rel F d v → Rel F2 d' v
  | .loc n, d', v, e, r => by
    obtain ⟨a, h1, rfl⟩ := r
    exact hh n d' a e h1
  | .tup ds, d', v, e, r => by
    obtain ⟨a, xs, rfl, hs, hl⟩ := r
    unfold mapD at e
    split at e
    · rename_i es he
      cases e
      exact ⟨a, xs, rfl, c.g _ _ hs, mapDL_rel c hh ds es xs he hl⟩
    · cases e
  | .tupx ds, d', v, e, r => by
    obtain ⟨a, xs, rfl, hs, hl⟩ := r
    unfold mapD at e
    split at e
    · rename_i es he
      cases e
      exact ⟨a, xs, rfl, by rw [c.k]; exact sqT_same c.g hs, mapDL_rel c hh ds es xs he hl⟩
    · cases e
  | .lst k ds, d', v, e, r => by
    unfold mapD at e
    split at e
    · cases e
    · rename_i hn
      split at e
      · rename_i es he
        cases e
        cases k with
        | own =>
          obtain ⟨a, xs, rfl, hs, hl⟩ := r
          exact ⟨a, xs, rfl, c.g _ _ hs, mapDL_rel c hh ds es xs he hl⟩
        | bor =>
          obtain ⟨a, xs, rfl, hs, hl⟩ := r
          have hb : bor = true := by
            cases bor with
            | true => rfl
            | false => exact absurd ⟨rfl, rfl⟩ hn
          exact ⟨a, xs, rfl, hs.elim (fun h => .inl (c.b hb _ _ h)) fun h => .inr (c.g _ _ h), mapDL_rel c hh ds es xs he hl⟩
        | ext =>
          obtain ⟨a, xs, rfl, hs, hl⟩ := r
          exact ⟨a, xs, rfl, by rw [c.k]; exact sqL_same c.g hs, mapDL_rel c hh ds es xs he hl⟩
      · cases e
  | .dik k ks ds, d', v, e, r => by
    unfold mapD at e
    split at e
    · cases e
    · rename_i hn
      split at e
      · rename_i es he
        cases e
        obtain ⟨a, xs, rfl, hz, hs, hl⟩ := r
        have hl2 := mapDL_rel c hh ds es xs he hl
        refine ⟨a, xs, rfl, hz.trans (hl.length.trans hl2.length.symm), hs.elim (fun h => .inl (c.g _ _ h)) fun h => .inr ⟨h.1, c.b ?_ _ _ h.2⟩, hl2⟩
        cases bor with
        | true => rfl
        | false => exact absurd ⟨h.1, rfl⟩ hn
      · cases e
  | .dit k ks ds, d', v, e, r => by
    unfold mapD at e
    split at e
    · cases e
    · rename_i hn
      split at e
      · rename_i es he
        cases e
        obtain ⟨a, xs, rfl, hz, hs, hl⟩ := r
        have hl2 := mapDL_rel c hh ds es xs he hl
        refine ⟨a, xs, rfl, hz.trans (hl.length.trans hl2.length.symm), hs.elim (fun h => .inl (c.g _ _ h)) fun h => .inr ⟨h.1, c.b ?_ _ _ h.2⟩, hl2⟩
        cases bor with
        | true => rfl
        | false => exact absurd ⟨h.1, rfl⟩ hn
      · cases e
  | .non, d', v, e, r => by
    cases (show some DV.non = some d' from e)
    exact r
  | .bl b, d', v, e, r => by
    cases (show some (DV.bl b) = some d' from e)
    exact r
  | .int b, d', v, e, r => by
    cases (show some (DV.int b) = some d' from e)
    exact r
  | .str b, d', v, e, r => by
    cases (show some (DV.str b) = some d' from e)
    exact r
theorem mapDL_rel {bor : Bool} {h : Nat → Option DV} {F F2 : Fm} (c : CpTo bor F F2) (hh : ∀ n d a, h n = some d → F.lm[n]? = some a → Rel F2 d (.ref a)) : ∀ (ds es : List DV) (vs : List V), mapDL bor h ds = some es → RelL F ds vs → RelL F2 es vs
  | [], es, vs, e, r => by
    cases (show some ([] : List DV) = some es from e)
    exact r
  | d :: ds, es, vs, e, r => by
    obtain ⟨x, xr, rfl, h1, h2⟩ := r
    unfold mapDL at e
    split at e
    · rename_i e1 he1
      split at e
      · rename_i es1 hes1
        cases e
        exact ⟨x, xr, rfl, mapD_rel c hh d e1 x he1 h1, mapDL_rel c hh ds es1 xr hes1 h2⟩
      · cases e
    · cases e
end
theorem cpN_rel {bor : Bool} {F F2 : Fm} {S : Sto} {H : Hp} (c : CpTo bor F F2) (R : Rep F S H)
    (hl : ∀ (n : Nat) (c : Cell) (a : Addr) (o : HO), S[n]? = some c → c.live = true → F.lm[n]? = some a → H a = some o → if bor then F2.B a = some o else F2.G a = some o) :
    ∀ (k n : Nat) (d : DV) (a : Addr), cpN bor k S n = some d → F.lm[n]? = some a → Rel F2 d (.ref a)
  | 0, n, d, a, e, _ => by cases e
  | k + 1, n, d, a, e, ha => by
    have ih := cpN_rel c R hl k
    unfold cpN at e
    split at e
    · rename_i ds hc
      obtain ⟨⟨xs, e2, hr⟩, _⟩ := R.cell n _ a hc ha
      have q := hl n _ a _ hc rfl ha e2
      split at e
      · rename_i es he
        cases e
        have hl2 := mapDL_rel c ih ds es xs he hr
        cases bor with
        | true => exact ⟨a, xs, rfl, .inl q, hl2⟩
        | false => exact ⟨a, xs, rfl, q, hl2⟩
      · cases e
    · rename_i ks ds hc
      obtain ⟨⟨xs, hz, e2, hr⟩, _⟩ := R.cell n _ a hc ha
      have q := hl n _ a _ hc rfl ha e2
      split at e
      · rename_i es he
        cases e
        have hl2 := mapDL_rel c ih ds es xs he hr
        have hz2 := hz.trans (hr.length.trans hl2.length.symm)
        cases bor with
        | true => exact ⟨a, xs, rfl, hz2, .inr ⟨(fun z => nomatch z), q⟩, hl2⟩
        | false => exact ⟨a, xs, rfl, hz2, .inl q, hl2⟩
      · cases e
    · rename_i ks ds hc
      obtain ⟨⟨xs, hz, e2, hr⟩, _⟩ := R.cell n _ a hc ha
      have q := hl n _ a _ hc rfl ha e2
      split at e
      · rename_i es he
        cases e
        have hl2 := mapDL_rel c ih ds es xs he hr
        have hz2 := hz.trans (hr.length.trans hl2.length.symm)
        cases bor with
        | true => exact ⟨a, xs, rfl, hz2, .inr ⟨(fun z => nomatch z), q⟩, hl2⟩
        | false => exact ⟨a, xs, rfl, hz2, .inl q, hl2⟩
      · cases e
    · rename_i d0 hc
      obtain ⟨hr, _⟩ := R.cell n _ a hc ha
      exact mapD_rel c ih d0 d (.ref a) e hr
    · cases e
/-- all arguments as borrowed values -/
theorem cpL_bor {F : Fm} {S : Sto} {H : Hp} (R : Rep F S H) {ds es : List DV} {vs : List V} (e : cpL true S ds = some es) (r : RelL F ds vs) : RelL ⟨F.K, F.G, H, fun _ => none, []⟩ es vs :=
  have c : CpTo true F ⟨F.K, F.G, H, fun _ => none, []⟩ := ⟨rfl, Same.refl _, fun _ => R.b⟩
  mapDL_rel c (cpN_rel c R (fun n c a o h l e1 e2 => by rw [if_pos rfl]; exact e2) _) ds es vs e r
theorem rep_empty {F : Fm} {S : Sto} {H : Hp} (R : Rep F S H) : Rep ⟨F.K, F.G, H, fun _ => none, []⟩ [] H :=
  ⟨R.g, Same.refl _, (fun _ _ q => nomatch q), R.tup, rfl, fun n c a h _ => by simp at h, fun n m c c' a h => by simp at h⟩

/-! ### defs -/
def runF (np n : Nat) (body : DS) : PL := fun ds S => if ds.length = np then (match body (ds.map some ++ List.replicate (n - ds.length) none) S with
  | some (.rt d S') => some (d, S')
  | some (.nx _ S') => some (.non, S')
  | _ => none) else none
def spS (K : PySem.W.Frag) (np : Nat) (f : PL) : Sp := fun vs H Q _ => ∃ F S ds d S', F.K = K ∧ Rep F S H ∧ RelL F ds vs ∧ ds.length = np ∧ f ds S = some (d, S') ∧ PostE F S' d Q
theorem relE_start {F : Fm} {ds : List DV} {vs : List V} (r : RelL F ds vs) (N : List Str) : RelE F (ds.map some ++ List.replicate (N.length - ds.length) none) (L2.start N vs) := by
  have hl := r.length
  refine ⟨by unfold L2.start; simp [hl], fun i d e => ?_⟩
  unfold L2.start
  by_cases q : i < ds.length
  · rw [List.getElem?_append_left (by simpa using q)] at e
    rw [List.getElem?_append_left (by simp; omega)]
    rw [List.getElem?_map] at e
    cases e2 : ds[i]? with
    | none =>
      rw [e2] at e
      cases e
    | some d2 =>
      rw [e2] at e
      have e3 : d2 = d := Option.some.inj (Option.some.inj e)
      subst e3
      obtain ⟨v, e4, e5⟩ := r.get e2
      exact ⟨v, by rw [List.getElem?_map, e4] <;> rfl, e5⟩
  · rw [List.getElem?_append_right (by simp; omega)] at e
    have := List.getElem?_eq_some_iff.mp e
    obtain ⟨h1, h2⟩ := this
    rw [List.getElem_replicate] at h2
    cases h2
section
variable {P : Program} {w : World} {K : PySem.W.Frag} {mg : Str → Option Value} {base : Heap} {x qual : Str} {params : Arguments} {body : List Stmt} {scope : Scope} {dvs : List V} {kws : List (Str × V)} {f : Addr} {fd : FuncData}
/-- a def whose body is known as a denotation -/
theorem fn_ok {N ps : List Str} {k : Nat} {b : DS} (F : FunD K x qual params body scope dvs kws f fd) (S : FnScope N ps scope)
    (hb : ∀ (cdv : Value) (A : Around) (outer : List Env) (s : Shared) (H : Hp) (E : XK), Room k (A.deeper (envOfC qual scope s.heap.objs.size f cdv)) → SDs (cxOf CX0 P w K mg base N qual scope f cdv A outer s H E).nox body b) :
    FnOk P w K mg base CX0 (k + 1) f fd ps (spS K ps.length (runF ps.length N.length b)) := by
  refine F.ok S (fun vs H Q E h => ?_) (fun cdv A outer s H vs Q E hr h => ?_)
  · obtain ⟨F, S, ds, d, S', hk, R, r, hn, _⟩ := h
    rw [← r.length, hn]
  · refine ⟨_, (hb cdv A outer s H E hr).ps.nox, ?_⟩
    obtain ⟨F, S, ds, d, S', hk, R, r, hn, e, hq⟩ := h
    unfold runF at e
    rw [if_pos hn] at e
    split at e
    · rename_i d' S2 h1
      cases e
      exact ⟨F, S, _, _, hk, R, relE_start r N, h1, fun F' H' le R' v rv => hq F' H' v le R' rv⟩
    · rename_i ρ' S2 h1
      cases e
      exact ⟨F, S, _, _, hk, R, relE_start r N, h1, fun F' H' le R' σ' _ => hq F' H' .non le R' rfl⟩
    · cases e
end

/-! ### calls -/
/-- a call that shares the store -/
def cS (f : PL) (dds : List DV) : PL := fun xs S => f (xs ++ dds) S
theorem ok_cS {K : PySem.W.Frag} {np : Nat} {f : PL} {dds : List DV} {dvs : List V} {E : XK} (hd : ∀ F : Fm, RelL F dds dvs) (hn : ∀ xs S z, f xs S = some z → xs.length = np) : OkL K (cS f dds) (fun vs H Q => spS K np f (vs ++ dvs) H Q E) :=
  fun F S H xs vs d S' Q hk R r hp hq => ⟨F, S, xs ++ dds, d, S', hk, R, r.append (hd F), hn _ _ _ hp, hp, hq⟩
theorem runF_len {np n : Nat} {b : DS} : ∀ xs S z, runF np n b xs S = some z → xs.length = np := fun xs S z h => by
  unfold runF at h
  exact (of_ite h).1
/-- a call with a store of its own: a function of the arguments' values -/
def pureOf (f : PL) : List DV → Option DV := fun ds => match f ds [] with
  | some (d, S') => cpD false S' d
  | none => none
def cP (p : List DV → Option DV) (dds : List DV) : PL := fun xs S => match cpL true S (xs ++ dds) with
  | some ys => (match p ys with
    | some d => some (d, S)
    | none => none)
  | none => none
/-- behind a call with a store of its own: all new objects are frozen -/
def newG (G H H' : Hp) : Hp := fun a => match G a with
  | some o => some o
  | none => if H a = none then H' a else none
theorem newG_same {G H H' : Hp} : Same G (newG G H H') := fun a o e => by
  unfold newG
  rw [e]
theorem after_pure {F Fc : Fm} {S S' : Sto} {H H' : Hp} (R : Rep F S H) (le : Le ⟨F.K, F.G, H, fun _ => none, []⟩ Fc) (R' : Rep Fc S' H') {ex : Addr → Prop} [DecidablePred ex] (hex : ∀ a, ex a → Fc.G a = none ∧ H a = none) (hexT : ∀ a xs, ex a → H' a ≠ some (.tup xs)) :
    Rep { F with G := fun a => if ex a then none else newG Fc.G H H' a } S H' ∧ Le F { F with G := fun a => if ex a then none else newG Fc.G H H' a } := by
  have hB : Fc.B = H := le.b
  have sHH : Same H H' := by
    have := R'.b
    rw [hB] at this
    exact this
  have sG : Same F.G (fun a => if ex a then none else newG Fc.G H H' a) := fun a o e => by
    have e1 : Fc.G a = some o := le.g _ _ e
    by_cases q : ex a
    · rw [(hex a q).1] at e1
      cases e1
    · show (if ex a then none else newG Fc.G H H' a) = some o
      rw [if_neg q]
      exact newG_same _ _ e1
  have at_ : ∀ a o, (if ex a then none else newG Fc.G H H' a) = some o → (Fc.G a = some o ∨ (H a = none ∧ H' a = some o)) := fun a o e => by
    by_cases q : ex a
    · rw [if_pos q] at e
      cases e
    · rw [if_neg q] at e
      unfold newG at e
      split at e
      · rename_i o' h1
        cases e
        exact .inl h1
      · split at e
        · exact .inr ⟨by assumption, e⟩
        · cases e
  refine ⟨⟨fun a o e => ?_, fun a o e => sHH _ _ (R.b _ _ e), fun a o e => sHH _ _ (R.p _ _ e), fun a xs e => ?_, R.len, fun n c a h e => ?_, R.inj⟩, ⟨rfl, rfl, rfl, sG, fun a o e => ?_, List.prefix_refl _⟩⟩
  · rcases at_ a o e with h | ⟨_, h⟩
    · exact R'.g _ _ h
    · exact h
  · have h1 := R'.tup _ _ e
    show (if ex a then none else newG Fc.G H H' a) = _
    rw [if_neg fun q => hexT a xs q e]
    exact newG_same _ _ h1
  · obtain ⟨k1, k2⟩ := R.cell n c a h e
    have wk1 : Wk F { F with G := fun a => if ex a then none else newG Fc.G H H' a } := ⟨rfl, Same.refl _, sG, List.prefix_refl _⟩
    refine ⟨CellOk.wk (F := F) wk1 (fun _ _ _ e => e) k1 fun l => ?_, fun l => ⟨?_, (k2 l).2⟩⟩
    · obtain ⟨o, e1, _⟩ := k1.some l
      rw [e1]
      exact sHH _ _ e1
    · obtain ⟨o, e1, _⟩ := k1.some l
      show (if ex a then none else newG Fc.G H H' a) = none
      cases q : (if ex a then none else newG Fc.G H H' a) with
      | none => rfl
      | some u =>
        rcases at_ a u q with h | ⟨h, _⟩
        · rcases le.n a u h with h2 | h2
          · have h3 : F.G a = some u := h2
            rw [(k2 l).1] at h3
            cases h3
          · have h3 : H a = none := h2.1
            rw [e1] at h3
            cases h3
        · rw [e1] at h
          cases h
  · rcases at_ a o e with h | ⟨h, _⟩
    · rcases le.n a o h with h2 | h2
      · exact .inl h2
      · have h3 : H a = none := h2.1
        exact .inr ⟨R.b.free h3, R.p.free h3⟩
    · exact .inr ⟨R.b.free h, R.p.free h⟩
theorem ok_cP {K : PySem.W.Frag} {np : Nat} {f : PL} {dds : List DV} {dvs : List V} {E : XK} (hd : ∀ F : Fm, RelL F dds dvs) (hn : ∀ xs S z, f xs S = some z → xs.length = np) : OkL K (cP (pureOf f) dds) (fun vs H Q => spS K np f (vs ++ dvs) H Q E) :=
  fun F S H xs vs d S' Q hk R r hp hq => by
    unfold cP at hp
    split at hp
    · rename_i ys hy
      split at hp
      · rename_i d0 hp0
        cases hp
        unfold pureOf at hp0
        split at hp0
        · rename_i d1 S1 hf
          refine ⟨⟨F.K, F.G, H, fun _ => none, []⟩, [], ys, d1, S1, hk, rep_empty R, cpL_bor R hy (r.append (hd F)), hn _ _ _ hf, hf, fun Fc H' v le R' rv => ?_⟩
          obtain ⟨R2, le2⟩ := after_pure R le R' (ex := fun _ => False) (fun _ q => q.elim) (fun _ _ q => q.elim)
          refine hq _ _ v le2 R2 ?_
          have hB : Fc.B = H := le.b
          have c : CpTo false Fc { F with G := fun a => if False then none else newG Fc.G H H' a } := ⟨le.k.symm, fun a o e => newG_same _ _ e, fun q => nomatch q⟩
          refine mapD_rel c (cpN_rel c R' (fun n cc a o h l e1 e2 => ?_) _) d1 d v hp0 rv
          rw [if_neg Bool.false_ne_true]
          obtain ⟨_, k2⟩ := R'.cell n cc a h e1
          obtain ⟨ga, ba⟩ := k2 l
          show newG Fc.G H H' a = some o
          unfold newG
          rw [ga]
          show (if H a = none then H' a else none) = some o
          rw [← hB, if_pos ba.1, e2]
        · cases hp0
      · cases hp
    · cases hp
/-- .. whose result is a new list that may be changed -/
def freshOf (f : PL) : List DV → Option (List DV) := fun ds => match f ds [] with
  | some (.loc n, S') => (match S'[n]? with
    | some (.lst xs) => cpL false (S'.set n .gone) xs
    | _ => none)
  | _ => none
def cM (p : List DV → Option (List DV)) (dds : List DV) : PL := fun xs S => match cpL true S (xs ++ dds) with
  | some ys => (match p ys with
    | some es => some (.loc S.length, S ++ [.lst es])
    | none => none)
  | none => none
theorem ok_cM {K : PySem.W.Frag} {np : Nat} {f : PL} {dds : List DV} {dvs : List V} {E : XK} (hd : ∀ F : Fm, RelL F dds dvs) (hn : ∀ xs S z, f xs S = some z → xs.length = np) : OkL K (cM (freshOf f) dds) (fun vs H Q => spS K np f (vs ++ dvs) H Q E) :=
  fun F S H xs vs d S' Q hk R r hp hq => by
    unfold cM at hp
    split at hp
    · rename_i ys hy
      split at hp
      · rename_i es hp0
        cases hp
        unfold freshOf at hp0
        split at hp0
        · rename_i n1 S1 hf
          split at hp0
          · rename_i zs hz
            refine ⟨⟨F.K, F.G, H, fun _ => none, []⟩, [], ys, .loc n1, S1, hk, rep_empty R, cpL_bor R hy (r.append (hd F)), hn _ _ _ hf, hf, fun Fc H' v le R' rv => ?_⟩
            have hB : Fc.B = H := le.b
            obtain ⟨a0, ha0, rfl⟩ := rv
            obtain ⟨⟨us, eu, ru⟩, k0⟩ := R'.cell n1 _ a0 hz ha0
            obtain ⟨g0, b0⟩ := k0 rfl
            have b0 : H a0 = none := by rw [← hB]; exact b0.1
            obtain ⟨R2, le2⟩ := after_pure R le R' (ex := fun a => a = a0) (fun a q => by rw [q]; exact ⟨g0, b0⟩) (fun a xs q e => by rw [q, eu] at e; cases e)
            have c : CpTo false Fc ({ F with G := fun a => if a = a0 then none else newG Fc.G H H' a }) := ⟨le.k.symm, fun a o e => by
              show (if a = a0 then none else newG Fc.G H H' a) = some o
              rw [if_neg fun q => by rw [q, g0] at e; cases e]
              exact newG_same _ _ e, fun q => nomatch q⟩
            have Rk : Rep Fc (S1.set n1 .gone) H' := R'.kill rfl fun _ _ => trivial
            have hes : RelL ({ F with G := fun a => if a = a0 then none else newG Fc.G H H' a }) es us := by
              refine mapDL_rel c (cpN_rel c Rk (fun n cc a o h l e1 e2 => ?_) _) zs es us hp0 ru
              rw [if_neg Bool.false_ne_true]
              obtain ⟨_, k2⟩ := Rk.cell n cc a h e1
              obtain ⟨ga, ba⟩ := k2 l
              have na : a ≠ a0 := fun q => by
                have hne : n ≠ n1 := fun q2 => by
                  rw [q2, List.getElem?_set_self (List.getElem?_eq_some_iff.mp hz).1] at h
                  cases h
                  cases l
                rw [List.getElem?_set_ne (fun q2 => hne q2.symm)] at h
                exact hne (R'.inj n n1 cc _ a h hz l rfl e1 (by rw [q]; exact ha0))
              show (if a = a0 then none else newG Fc.G H H' a) = some o
              rw [if_neg na]
              unfold newG
              rw [ga]
              show (if H a = none then H' a else none) = some o
              rw [← hB, if_pos ba.1, e2]
            have R3 := R2.cell_new (p := a0) (c := .lst es) ⟨us, eu, hes.le (Fm.cell_le _ a0)⟩ (if_pos rfl) ⟨R.b.free b0, R.p.free b0⟩ (R.noCell b0)
            exact hq _ _ (.ref a0) (le2.trans (Fm.cell_le _ a0)) R3 ⟨a0, by rw [← R.len]; exact get_len _ _, rfl⟩
          · cases hp0
        · cases hp0
      · cases hp
    · cases hp
section
variable {X : Cx} {e : Expr}
theorem ed_call {es : List Expr} {sp : Sp} {dvs : List V} {E : XK} {p : PL} {fa : DA} (hpe : ∀ {t : TA}, PA X es t → PE X e (tCall sp dvs E t)) (hp : OkL X.K p (fun vs H Q => sp (vs ++ dvs) H Q E)) (ha : AD X es fa) : ED X e (dPrim p fa) :=
  .of (hpe ha.pa) fun F S H ρ σ d S' Q hk R rr hf hq => prim_go hp hk R rr hf hq
end
end Dn

namespace Dn
open PySem PySem.Spec PyProof.Rows L2

/-! ### comprehensions -/
theorem wipe_get {σ : L2.St} : ∀ {vs : List Nat} {j : Nat}, (wipe σ vs)[j]? = if j ∈ vs then (σ[j]?).map (fun _ => none) else σ[j]?
  | [], j => by rw [if_neg (by simp)] <;> rfl
  | v :: vs, j => by
    unfold wipe
    by_cases q : v = j
    · subst q
      rw [if_pos (by simp)]
      by_cases hv : v < σ.length
      · rw [List.getElem?_set_self (by rw [wipe_length]; exact hv), List.getElem?_eq_getElem hv] <;> rfl
      · rw [List.getElem?_eq_none (by rw [List.length_set, wipe_length]; omega), List.getElem?_eq_none (by omega)] <;> rfl
    · rw [List.getElem?_set_ne q, wipe_get (vs := vs)]
      by_cases hm : j ∈ vs
      · rw [if_pos hm, if_pos (by simp [hm])]
      · rw [if_neg hm, if_neg (by simp [hm]; exact fun z => q z.symm)]
theorem wipe_set {σ : L2.St} {vs : List Nat} {i : Nat} {x : Option V} (h : i ∈ vs) : wipe (σ.set i x) vs = wipe σ vs := by
  apply List.ext_getElem?
  intro j
  rw [wipe_get, wipe_get]
  by_cases q : i = j
  · subst q
    rw [if_pos h, if_pos h]
    by_cases hl : i < σ.length
    · rw [List.getElem?_set_self hl, List.getElem?_eq_getElem hl] <;> rfl
    · rw [List.getElem?_eq_none (by simp; omega), List.getElem?_eq_none (by omega)]
  · rw [List.getElem?_set_ne q]
theorem wipe_wipe {σ : L2.St} {vs : List Nat} : wipe (wipe σ vs) vs = wipe σ vs := by
  apply List.ext_getElem?
  intro j
  rw [wipe_get, wipe_get]
  by_cases h : j ∈ vs
  · rw [if_pos h, if_pos h, Option.map_map] <;> rfl
  · rw [if_neg h]
def dwipe (ρ : Ev) : List Nat → Ev
  | [] => ρ
  | v :: vs => (dwipe ρ vs).set v none
theorem relE_wipe {F : Fm} {ρ : Ev} {σ : L2.St} (r : RelE F ρ σ) : ∀ vs : List Nat, RelE F (dwipe ρ vs) (wipe σ vs)
  | [] => r
  | v :: vs => by
    have ih := relE_wipe r vs
    unfold dwipe wipe
    refine ⟨by simp [ih.len], fun j d e => ?_⟩
    by_cases q : v = j
    · subst q
      have hlt := (List.getElem?_eq_some_iff.mp e).1
      rw [List.length_set] at hlt
      rw [List.getElem?_set_self hlt] at e
      cases e
    · rw [List.getElem?_set_ne q] at e ⊢
      exact ih.at_ j d e
/-- a target of names alone: the heap stays, only the slots vs are set -/
def GW (K : PySem.W.Frag) (t : TG) (g : DG) (vs : List Nat) : Prop := ∀ F S H ρ σ d v ρ' S' (Q : L2.St → Hp → Prop), F.K = K → Rep F S H → RelE F ρ σ → Rel F d v → g d ρ S = some (ρ', S') → (∀ σ', S' = S → RelE F ρ' σ' → wipe σ' vs = wipe σ vs → Q σ' H) → t v σ H Q
theorem gw_name {K : PySem.W.Frag} {i : Nat} {vs : List Nat} (h : i ∈ vs) : GW K (gName i) (gSet i) vs := fun F S H ρ σ d v ρ' S' Q hk R rr rv hf hq => by
  cases (show some (ρ.set i (some d), S) = some (ρ', S') from hf)
  exact hq _ rfl (rr.set i rv) (wipe_set h)
def GWs (K : PySem.W.Frag) (t : TGs) (g : DGs) (vs : List Nat) : Prop := ∀ F S H ρ σ d v ρ' S' (Q : L2.St → Hp → Prop), F.K = K → Rep F S H → RelE F ρ σ → RelL F d v → g d ρ S = some (ρ', S') → (∀ σ', S' = S → RelE F ρ' σ' → wipe σ' vs = wipe σ vs → Q σ' H) → t v σ H Q
theorem gws_nil {K : PySem.W.Frag} {vs : List Nat} : GWs K gNil gsNil vs := fun F S H ρ σ d v ρ' S' Q hk R rr rv hf hq => by
  unfold gsNil at hf
  split at hf
  · cases hf
    exact ⟨rv.nil, hq σ rfl rr rfl⟩
  · cases hf
theorem gws_cons {K : PySem.W.Frag} {vs : List Nat} {t : TG} {u : TGs} {g : DG} {h : DGs} (h1 : GW K t g vs) (h2 : GWs K u h vs) : GWs K (gCons t u) (gsCons g h) vs := fun F S H ρ σ d v ρ' S' Q hk R rr rv hf hq => by
  unfold gsCons at hf
  split at hf
  · rename_i d0 r
    obtain ⟨x, vr, rfl, rx, rl⟩ := rv
    split at hf
    · rename_i ρ1 S1 e1
      refine ⟨x, vr, rfl, h1 F S H ρ σ d0 x ρ1 S1 _ hk R rr rx e1 fun σ1 hS r1 w1 => ?_⟩
      subst hS
      exact h2 F S1 H ρ1 σ1 r vr ρ' S' Q hk R r1 rl hf fun σ2 hS2 r2 w2 => hq σ2 hS2 r2 (w2.trans w1)
    · cases hf
  · cases hf
theorem gw_tup {K : PySem.W.Frag} {vs : List Nat} {n : Nat} {u : TGs} {h : DGs} (h2 : GWs K u h vs) : GW K (gTup K n u) (gTupD n h) vs := fun F S H ρ σ d v ρ' S' Q hk R rr rv hf hq => by
  unfold gTupD at hf
  split at hf
  · rename_i ds
    obtain ⟨hn, hf⟩ := of_ite hf
    obtain ⟨a, xs, rfl, hs, rl⟩ := rv
    exact ⟨a, xs, rfl, SqT.of (R.g _ _ hs), by rw [← rl.length]; exact hn, h2 F S H ρ σ ds xs ρ' S' Q hk R rr rl hf hq⟩
  · cases hf
theorem GW.gd {X : Cx} {e : Expr} {t : TG} {g : DG} {vs : List Nat} (h : GW X.K t g vs) (hp : PG X e t) : GD X e g := .of hp fun F S H ρ σ d v ρ' S' Q hk R rr rv hf hq =>
  h F S H ρ σ d v ρ' S' Q hk R rr rv hf fun σ' hS r _ => by
    subst hS
    exact hq F H σ' (.refl F) R r

def lcL (g : DG) (c fe : DE) (ρ : Ev) : List DV → Sto → Option (List DV × Sto)
  | [], S => some ([], S)
  | d :: ds, S => match g d ρ S with
    | some (ρ1, S1) => (match c ρ1 S1 with
      | some (.bl true, S2) => (match fe ρ1 S2 with
        | some (y, S3) => (match lcL g c fe ρ ds S3 with
          | some (ys, S4) => some (y :: ys, S4)
          | none => none)
        | none => none)
      | some (.bl false, S2) => lcL g c fe ρ ds S2
      | _ => none)
    | none => none
def lcR (it : DI) (g : DG) (c fe : DE) (vs : List Nat) : DA := fun ρ S => match it ρ S with
  | some (ds, S1) => (match lcL g c fe (dwipe ρ vs) ds S1 with
    | some (ys, S2) => if ys.length ≤ sizeLine then some (ys, S2) else none
    | none => none)
  | none => none
def dLc (it : DI) (g : DG) (c fe : DE) (vs : List Nat) : DE := fun ρ S => match lcR it g c fe vs ρ S with
  | some (ys, S2) => some (.lst .own ys, S2)
  | none => none
def dLcM (it : DI) (g : DG) (c fe : DE) (vs : List Nat) : DE := fun ρ S => match lcR it g c fe vs ρ S with
  | some (ys, S2) => some (.loc S2.length, S2 ++ [.lst ys])
  | none => none
def NoCell (F : Fm) (S : Sto) (D : Addr) : Prop := ∀ (n : Nat) (c : Cell), S[n]? = some c → c.live = true → F.lm[n]? ≠ some D
abbrev Fm.prot (F : Fm) (P : Hp) : Fm := { F with P := P }
theorem Rep.prot {F : Fm} {S : Sto} {H : Hp} (R : Rep F S H) {P : Hp} (hP : Same P H) (pf : ∀ a o u, F.P a = some (.frz o u) → P a = some (.frz o u)) (hc : ∀ (n : Nat) (c : Cell) (a : Addr), S[n]? = some c → c.live = true → F.lm[n]? = some a → P a = none) : Rep (F.prot P) S H :=
  ⟨R.g, R.b, hP, R.tup, R.len, fun n c a h e => ⟨CellOk.wk (F := F) (F' := F.prot P) (⟨rfl, Same.refl F.B, Same.refl F.G, List.prefix_refl F.lm⟩ : Wk F (F.prot P)) pf (R.cell n c a h e).1 fun _ => rfl, fun l => ⟨((R.cell n c a h e).2 l).1, ((R.cell n c a h e).2 l).2.1, hc n c a h l e⟩⟩, R.inj⟩
/-- an object that no data leans on is changed -/
theorem Rep.over {F : Fm} {S : Sto} {H : Hp} (R : Rep F S H) {D : Addr} {o : HO} (gD : F.G D = none) (fD : F.free D) (nc : NoCell F S D) (ht : ∀ xs, o ≠ .tup xs) : Rep F S (upd H D o) := by
  refine ⟨same_mono R.g gD, same_mono R.b fD.1, same_mono R.p fD.2, fun a xs e => ?_, R.len, fun n c a h e => ?_, R.inj⟩
  · by_cases q : a = D
    · rw [q, upd_same] at e
      exact absurd (Option.some.inj e) (ht xs)
    · rw [upd_ne q] at e
      exact R.tup _ _ e
  · obtain ⟨k1, k2⟩ := R.cell n c a h e
    exact ⟨k1.wk (Le.refl F).wk (Le.refl F).pf fun l => upd_ne fun q => nc n c h l (by rw [← q]; exact e), k2⟩
/-- an object that is there becomes frozen data -/
theorem Rep.adopt {F : Fm} {S : Sto} {H : Hp} (R : Rep F S H) {p : Addr} {o : HO} (hp : H p = some o) (gp : F.G p = none) (fp : F.free p) (nc : NoCell F S p) : Rep (F.add p o) S H ∧ Le F (F.add p o) := by
  have le := Fm.add_le (F := F) (o := o) gp fp
  refine ⟨⟨fun a u e => ?_, R.b, R.p, fun a xs e => ?_, R.len, fun n c a h e => ?_, R.inj⟩, le⟩
  · have e2 : upd F.G p o a = some u := e
    by_cases q : a = p
    · rw [q, upd_same] at e2
      rw [q, hp]
      exact e2
    · rw [upd_ne q] at e2
      exact R.g _ _ e2
  · show upd F.G p o a = _
    by_cases q : a = p
    · rw [q, upd_same, ← hp, ← q]
      exact e
    · rw [upd_ne q]
      exact R.tup _ _ e
  · obtain ⟨k1, k2⟩ := R.cell n c a h e
    refine ⟨k1.wk le.wk le.pf fun _ => rfl, fun l => ⟨?_, (k2 l).2⟩⟩
    show upd F.G p o a = none
    rw [upd_ne fun q => nc n c h l (by rw [← q]; exact e)]
    exact (k2 l).1
theorem lc_go {K : PySem.W.Frag} {it : DI} {g : DG} {c fe : DE} {vs : List Nat} {t : TG} {tt : TT} (hg : GW K t g vs) (hc : ∀ σ H Q, rdT K c σ H Q → tt σ H Q) {F : Fm} {S S2 : Sto} {H : Hp} {ρ : Ev} {σ : L2.St} {ys : List DV} {Q : VK}
    (hk : F.K = K) (R : Rep F S H) (rr : RelE F ρ σ) (hf : lcR it g c fe vs ρ S = some (ys, S2))
    (hq : ∀ F' H' D xs, Le F F' → Rep F' S2 H' → H' D = some (.lst xs) → RelL F' ys xs → F'.G D = none → F'.free D → NoCell F' S2 D → Q (.ref D) H') : tLc (rdI K it) t tt (rdE K fe) vs σ H Q := by
  unfold lcR at hf
  split at hf
  · rename_i ds S1 h1
    split at hf
    · rename_i ys' S2' h2
      obtain ⟨hsz, hf⟩ := of_ite hf
      cases hf
      refine ⟨F, S, ρ, ds, S1, hk, R, rr, h1, fun J F1 H1 le1 R1 wk D hD => ?_⟩
      have r1 := rr.le le1
      refine ⟨fun i m H => i ≤ ds.length ∧ m = ds.length - i ∧ ∃ F' S' acc accV rest, Le F1 F' ∧ Rep F' S' H ∧ H D = some (.lst accV) ∧ RelL F' acc accV ∧ F'.G D = none ∧ F'.free D ∧ NoCell F' S' D ∧ lcL g c fe (dwipe ρ vs) (ds.drop i) S' = some (rest, S2) ∧ ys = acc ++ rest,
        ⟨ds.length, Nat.zero_le _, rfl, F1, S1, [], [], ys, .refl F1, R1.beside hD (fun _ q => nomatch q), upd_same, rfl, R1.g.free hD, ⟨R1.b.free hD, R1.p.free hD⟩, R1.noCell hD, by rw [List.drop_zero]; exact h2, rfl⟩, ?_⟩
      rintro i m H ⟨hi, rfl, F', S', acc, accV, rest, le', R', eD, ra, gD, fD, nc, hl, ey⟩
      have Pw : Wk F' (F'.prot (upd F'.P D (.lst accV))) := ⟨rfl, Same.refl _, Same.refl _, List.prefix_refl _⟩
      have Rp : Rep (F'.prot (upd F'.P D (.lst accV))) S' H := by
        refine R'.prot (fun a o e => ?_) (fun a o u e => by
          show upd F'.P D (.lst accV) a = _
          rw [upd_ne fun q => by rw [q, fD.2] at e; cases e]
          exact e) fun n c a h l e => ?_
        · by_cases q : a = D
          · rw [q, upd_same] at e
            rw [q, eD]
            exact e
          · rw [upd_ne q] at e
            exact R'.p _ _ e
        · rw [upd_ne fun q => nc n c h l (by rw [← q]; exact e)]
          exact ((R'.cell n c a h e).2 l).2.2
      have wk1 : Wk F1 (F'.prot (upd F'.P D (.lst accV))) := ⟨le'.k, le'.wk.b, le'.g, le'.m⟩
      obtain ⟨w1, w2⟩ := wk i _ S' H wk1 (fun a o u e => by
        show upd F'.P D (.lst accV) a = _
        have e' : F'.P a = some (.frz o u) := by rw [le'.p]; exact e
        rw [upd_ne fun q => by rw [q, fD.2] at e'; cases e']
        exact e') Rp
      by_cases hlt : i < ds.length
      · refine .inr ?_
        obtain ⟨g1, g2⟩ := w2 _ (List.getElem?_eq_getElem hlt)
        rw [List.drop_eq_getElem_cons hlt] at hl
        unfold lcL at hl
        refine ⟨g1, fun H' => ∃ m', m' < ds.length - i ∧ (i + 1 ≤ ds.length ∧ m' = ds.length - (i + 1) ∧ ∃ F' S' acc accV rest, Le F1 F' ∧ Rep F' S' H' ∧ H' D = some (.lst accV) ∧ RelL F' acc accV ∧ F'.G D = none ∧ F'.free D ∧ NoCell F' S' D ∧ lcL g c fe (dwipe ρ vs) (ds.drop (i + 1)) S' = some (rest, S2) ∧ ys = acc ++ rest), fun _ z => z, fun x H2 y => ?_⟩
        obtain ⟨F2, le2, R2, rx⟩ := g2 x H2 y
        have rE2 : RelE F2 (dwipe ρ vs) (wipe σ vs) := relE_wipe ((r1.wk wk1).le le2) vs
        -- what is known behind any part of the turn
        have back : ∀ {F4 : Fm} {S4 : Sto} {H4 : Hp}, Le (F'.prot (upd F'.P D (.lst accV))) F4 → Rep F4 S4 H4 → H4 D = some (.lst accV) ∧ Le F1 (F4.prot F1.P) ∧ F4.G D = none ∧ F4.B D = none ∧ F1.P D = none ∧ NoCell F4 S4 D ∧ Rep (F4.prot F1.P) S4 H4 ∧ RelL F4 acc accV := fun {F4 S4 H4} le4 R4 => by
          have eP : F4.P = upd F'.P D (.lst accV) := le4.p
          have ePD : F4.P D = some (.lst accV) := by rw [eP, upd_same]
          have pp : F'.P = F1.P := le'.p
          have gD4 : F4.G D = none := by
            cases q : F4.G D with
            | none => rfl
            | some o =>
              rcases le4.n D o q with h | h
              · have h2 : F'.G D = some o := h
                rw [gD] at h2
                cases h2
              · have h2 : upd F'.P D (HO.lst accV) D = none := h.2
                rw [upd_same] at h2
                cases h2
          have pD : F1.P D = none := by rw [← pp]; exact fD.2
          have nc4 : NoCell F4 S4 D := fun n c h l e => by
            have h3 := ((R4.cell n c D h e).2 l).2.2
            rw [ePD] at h3
            cases h3
          refine ⟨R4.p _ _ ePD, ⟨le4.k.trans le'.k, le4.b.trans le'.b, rfl, le'.g.trans le4.g, fun a o e => ?_, le'.m.trans le4.m⟩, gD4, ?_, pD, nc4, ?_, RelL.wk (F := F') ?_ _ _ ra⟩
          · rcases le4.n a o e with h | h
            · exact le'.n a o h
            · right
              have h1 : F'.B a = none := h.1
              have h2 : upd F'.P D (HO.lst accV) a = none := h.2
              have h3 : F'.P a = none := by
                by_cases q : a = D
                · rw [q, upd_same] at h2
                  cases h2
                · rw [upd_ne q] at h2
                  exact h2
              exact ⟨by rw [← le'.b]; exact h1, by rw [← pp]; exact h3⟩
          · rw [le4.b]
            exact fD.1
          · refine R4.prot (fun a o e => ?_) (fun a o u e => by
              rw [eP] at e
              by_cases q : a = D
              · rw [q, upd_same] at e
                cases e
              · rw [upd_ne q, pp] at e
                exact e) fun n c a h l e => ?_
            · refine R4.p _ _ ?_
              rw [eP, upd_ne (fun q => by rw [q, pD] at e; cases e), pp]
              exact e
            · have h3 := ((R4.cell n c a h e).2 l).2.2
              rw [eP] at h3
              by_cases q : a = D
              · rw [q]
                exact pD
              · rw [upd_ne q, pp] at h3
                exact h3
          · exact ⟨le4.k, le4.wk.b, le4.g, le4.m⟩
        split at hl
        · rename_i ρ1 S3 hg1
          refine hg F2 S' H2 _ _ _ x ρ1 S3 _ (le2.k.trans (le'.k.trans (le1.k.trans hk))) R2 rE2 rx hg1 fun σ3 hS r3 w3 => ⟨w3.trans wipe_wipe, ?_⟩
          subst hS
          split at hl
          · rename_i S5 hc1
            refine hc _ _ _ (rdT.go (le2.k.trans (le'.k.trans (le1.k.trans hk))) R2 r3 hc1 fun F3 H3 le3 hk3 R3 r4 => ?_)
            rw [if_pos rfl]
            split at hl
            · rename_i y1 S6 he1
              split at hl
              · rename_i ys7 S7 hl7
                cases hl
                refine rdE.go hk3 R3 r4 he1 fun F4 H4 v le4 hk4 R4 r5 rv => ?_
                obtain ⟨b1, b2, b3, b4, b5, b6, b7, b8⟩ := back ((le2.trans le3).trans le4) R4
                have hlen := ra.length
                refine ⟨accV, b1, ?_, _, by omega, hlt, rfl, F4.prot F1.P, S6, acc ++ [y1], accV ++ [v], ys7, b2, b7.over b3 ⟨b4, b5⟩ b6 (fun _ q => nomatch q), upd_same, ?_, b3, ⟨b4, b5⟩, b6, hl7, by rw [ey, List.append_assoc] <;> rfl⟩
                · rw [ey] at hsz
                  simp at hsz
                  omega
                · exact RelL.wk (F := F4) (F' := F4.prot F1.P) (⟨rfl, Same.refl F4.B, Same.refl F4.G, List.prefix_refl F4.lm⟩ : Wk F4 (F4.prot F1.P)) _ _ (b8.append (RelL.cons rv rfl))
              · cases hl
            · cases hl
          · rename_i S5 hc1
            refine hc _ _ _ (rdT.go (le2.k.trans (le'.k.trans (le1.k.trans hk))) R2 r3 hc1 fun F3 H3 le3 hk3 R3 r4 => ?_)
            rw [if_neg Bool.false_ne_true]
            obtain ⟨b1, b2, b3, b4, b5, b6, b7, b8⟩ := back (le2.trans le3) R3
            exact ⟨_, by omega, hlt, rfl, F3.prot F1.P, S5, acc, accV, rest, b2, b7, b1, RelL.wk (F := F3) (F' := F3.prot F1.P) (⟨rfl, Same.refl F3.B, Same.refl F3.G, List.prefix_refl F3.lm⟩ : Wk F3 (F3.prot F1.P)) _ _ b8, b3, ⟨b4, b5⟩, b6, hl, ey⟩
          · cases hl
        · cases hl
      · have e : i = ds.length := by omega
        subst e
        rw [List.drop_length] at hl
        cases (show some (([] : List DV), S') = some (rest, S2) from hl)
        rw [List.append_nil] at ey
        subst ey
        exact .inl ⟨w1 rfl, hq F' H D accV (le1.trans le') R' eD ra gD fD nc⟩
    · cases hf
  · cases hf
theorem lc_own {K : PySem.W.Frag} {it : DI} {g : DG} {c fe : DE} {vs : List Nat} {t : TG} {tt : TT} (hg : GW K t g vs) (hc : ∀ σ H Q, rdT K c σ H Q → tt σ H Q) {F : Fm} {S S' : Sto} {H : Hp} {ρ : Ev} {σ : L2.St} {d : DV} {Q : VK}
    (hk : F.K = K) (R : Rep F S H) (rr : RelE F ρ σ) (hf : dLc it g c fe vs ρ S = some (d, S')) (hq : PostE F S' d Q) : tLc (rdI K it) t tt (rdE K fe) vs σ H Q := by
  unfold dLc at hf
  split at hf
  · rename_i ys S2 h
    cases hf
    refine lc_go hg hc hk R rr h fun F' H' D xs le R' eD r gD fD nc => ?_
    obtain ⟨R2, le2⟩ := R'.adopt eD gD fD nc
    exact hq _ _ _ (le.trans le2) R2 ⟨D, xs, rfl, upd_same, r.le le2⟩
  · cases hf
theorem lc_mut {K : PySem.W.Frag} {it : DI} {g : DG} {c fe : DE} {vs : List Nat} {t : TG} {tt : TT} (hg : GW K t g vs) (hc : ∀ σ H Q, rdT K c σ H Q → tt σ H Q) {F : Fm} {S S' : Sto} {H : Hp} {ρ : Ev} {σ : L2.St} {d : DV} {Q : VK}
    (hk : F.K = K) (R : Rep F S H) (rr : RelE F ρ σ) (hf : dLcM it g c fe vs ρ S = some (d, S')) (hq : PostE F S' d Q) : tLc (rdI K it) t tt (rdE K fe) vs σ H Q := by
  unfold dLcM at hf
  split at hf
  · rename_i ys S2 h
    cases hf
    refine lc_go hg hc hk R rr h fun F' H' D xs le R' eD r gD fD nc => ?_
    have R2 := R'.cell_new (c := .lst ys) ⟨xs, eD, r.le (F'.cell_le D)⟩ gD fD nc
    exact hq _ _ _ (le.trans (F'.cell_le D)) R2 ⟨D, by rw [← R'.len]; exact get_len _ _, rfl⟩
  · cases hf
theorem yes_of {K : PySem.W.Frag} : ∀ σ H Q, rdT K (dC (.bl true)) σ H Q → tYes σ H Q := fun σ H Q h => by
  obtain ⟨F, S, ρ, b, S', hk, R, rr, e, hq⟩ := h
  cases (show some (DV.bl true, S) = some (DV.bl b, S') from e)
  exact hq F H (.refl F) R
theorem same_of {K : PySem.W.Frag} {c : DE} : ∀ σ H Q, rdT K c σ H Q → rdT K c σ H Q := fun _ _ _ h => h
section
variable {X : Cx} {e : Expr} {st : Stmt} {it : DI} {g : DG} {c fe : DE} {vs : List Nat} {t : TG} {tt : TT}
theorem ed_lc (h : PE X e (tLc (rdI X.K it) t tt (rdE X.K fe) vs)) (hg : GW X.K t g vs) (hc : ∀ σ H Q, rdT X.K c σ H Q → tt σ H Q) : ED X e (dLc it g c fe vs) :=
  .of h fun F S H ρ σ d S' Q hk R rr hf hq => lc_own hg hc hk R rr hf hq
theorem ed_lcM (h : PE X e (tLc (rdI X.K it) t tt (rdE X.K fe) vs)) (hg : GW X.K t g vs) (hc : ∀ σ H Q, rdT X.K c σ H Q → tt σ H Q) : ED X e (dLcM it g c fe vs) :=
  .of h fun F S H ρ σ d S' Q hk R rr hf hq => lc_mut hg hc hk R rr hf hq
/-- name = [..] -/
theorem sd_setLc {i : Nat} (h : PS X st (tAsg (tLc (rdI X.K it) t tt (rdE X.K fe) vs) (gName i))) (hg : GW X.K t g vs) (hc : ∀ σ H Q, rdT X.K c σ H Q → tt σ H Q) : SD X st (dSet i (dLc it g c fe vs)) :=
  sd_set ⟨fun pins s σ H D I hw => h.run pins s σ H D I (by
    obtain ⟨F, S, ρ, d, S', hk, R, rr, hf, hq⟩ := hw
    exact lc_own hg hc hk R rr hf hq)⟩
theorem sd_setLcM {i : Nat} (h : PS X st (tAsg (tLc (rdI X.K it) t tt (rdE X.K fe) vs) (gName i))) (hg : GW X.K t g vs) (hc : ∀ σ H Q, rdT X.K c σ H Q → tt σ H Q) : SD X st (dSet i (dLcM it g c fe vs)) :=
  sd_set ⟨fun pins s σ H D I hw => h.run pins s σ H D I (by
    obtain ⟨F, S, ρ, d, S', hk, R, rr, hf, hq⟩ := hw
    exact lc_mut hg hc hk R rr hf hq)⟩
end
end Dn

namespace Dn
open PySem PySem.Spec PyProof.Rows L2

/-! ### what a value holds -/
def asL (S : Sto) : DV → Option (List DV)
  | .lst _ ds => some ds
  | .loc n => match S[n]? with
    | some (.lst ds) => some ds
    | some (.frz (.lst _ ds)) => some ds
    | _ => none
  | _ => none
/-- a list that is tracked as such (not the script, not the module's own) -/
def asT (S : Sto) : DV → Option (List DV)
  | .lst .own ds => some ds
  | .lst .bor ds => some ds
  | .loc n => match S[n]? with
    | some (.lst ds) => some ds
    | some (.frz (.lst .own ds)) => some ds
    | _ => none
  | _ => none
section
variable {F : Fm} {S : Sto} {H : Hp} {d : DV} {v : V} {ds : List DV}
theorem Rel.lstSq {k : LK} (R : Rep F S H) (r : Rel F (.lst k ds) v) : ∃ a xs, v = .ref a ∧ SqL F.K H a xs ∧ RelL F ds xs := by
  cases k with
  | own =>
    obtain ⟨a, xs, rfl, h, rl⟩ := r
    exact ⟨a, xs, rfl, SqL.of (R.g _ _ h), rl⟩
  | bor =>
    obtain ⟨a, xs, rfl, h, rl⟩ := r
    exact ⟨a, xs, rfl, SqL.of (h.elim (R.b _ _) (R.g _ _)), rl⟩
  | ext =>
    obtain ⟨a, xs, rfl, h, rl⟩ := r
    exact ⟨a, xs, rfl, sqL_same R.g h, rl⟩
theorem asL_sq (R : Rep F S H) (r : Rel F d v) (h : asL S d = some ds) : ∃ a xs, v = .ref a ∧ SqL F.K H a xs ∧ RelL F ds xs := by
  cases d with
  | lst k es =>
    cases (show some es = some ds from h)
    exact r.lstSq R
  | loc n =>
    obtain ⟨a, ha, rfl⟩ := r
    unfold asL at h
    simp only at h
    split at h
    · rename_i es hc
      cases h
      obtain ⟨⟨xs, e, rl⟩, _⟩ := R.cell n _ a hc ha
      exact ⟨a, xs, rfl, SqL.of e, rl⟩
    · rename_i k es hc
      cases h
      obtain ⟨rl, _⟩ := R.cell n _ a hc ha
      exact (show Rel F (.lst k ds) (.ref a) from rl).lstSq R
    · cases h
  | _ => cases h
theorem asT_sq (R : Rep F S H) (r : Rel F d v) (h : asT S d = some ds) : ∃ a xs, v = .ref a ∧ H a = some (.lst xs) ∧ RelL F ds xs := by
  cases d with
  | lst k es =>
    cases k with
    | own =>
      cases (show some es = some ds from h)
      obtain ⟨a, xs, rfl, h, rl⟩ := r
      exact ⟨a, xs, rfl, R.g _ _ h, rl⟩
    | bor =>
      cases (show some es = some ds from h)
      obtain ⟨a, xs, rfl, h, rl⟩ := r
      exact ⟨a, xs, rfl, h.elim (R.b _ _) (R.g _ _), rl⟩
    | ext => cases h
  | loc n =>
    obtain ⟨a, ha, rfl⟩ := r
    unfold asT at h
    simp only at h
    split at h
    · rename_i es hc
      cases h
      obtain ⟨⟨xs, e, rl⟩, _⟩ := R.cell n _ a hc ha
      exact ⟨a, xs, rfl, e, rl⟩
    · rename_i es hc
      cases h
      obtain ⟨rl, _⟩ := R.cell n _ a hc ha
      obtain ⟨b, xs, e1, h, rl⟩ := (show Rel F (.lst .own ds) (.ref a) from rl)
      cases e1
      exact ⟨a, xs, rfl, R.g _ _ h, rl⟩
    · cases h
  | _ => cases h
theorem tup_sq (R : Rep F S H) (r : Rel F (.tup ds) v) : ∃ a xs, v = .ref a ∧ SqT F.K H a xs ∧ RelL F ds xs := by
  obtain ⟨a, xs, rfl, h, rl⟩ := r
  exact ⟨a, xs, rfl, SqT.of (R.g _ _ h), rl⟩
theorem tup_at (R : Rep F S H) (r : Rel F (.tup ds) v) : ∃ a xs, v = .ref a ∧ H a = some (.tup xs) ∧ RelL F ds xs := by
  obtain ⟨a, xs, rfl, h, rl⟩ := r
  exact ⟨a, xs, rfl, R.g _ _ h, rl⟩
theorem tupx_sq (R : Rep F S H) (r : Rel F (.tupx ds) v) : ∃ a xs, v = .ref a ∧ SqT F.K H a xs ∧ RelL F ds xs := by
  obtain ⟨a, xs, rfl, h, rl⟩ := r
  exact ⟨a, xs, rfl, sqT_same R.g h, rl⟩
end

/-! ### arithmetic -/
abbrev PI2 := Int → Int → Option Int
def pI (g : PI2) : P2 := fun x y S => match x, y with
  | .int i, .int j => (match g i j with
    | some k => some (.int k, S)
    | none => none)
  | _, _ => none
theorem ok_I {K : PySem.W.Frag} {C : Int → Int → Prop} {g : Int → Int → Int} {p : PI2} (h : ∀ i j k, p i j = some k → C i j ∧ k = g i j) : Ok2 K (pI p) (rI C fun i j => .int (g i j)) :=
  fun F S H x y vx vy d S' Q hk R rx ry hp hq => by
    unfold pI at hp
    split at hp
    · rename_i i j
      split at hp
      · rename_i k hk
        cases hp
        obtain ⟨hc, rfl⟩ := h _ _ _ hk
        exact ⟨i, j, rx, ry, hc, hq F H _ (.refl F) R rfl⟩
      · cases hp
    · cases hp
theorem ok_I0 {K : PySem.W.Frag} {g : Int → Int → Int} : Ok2 K (pI fun i j => some (g i j)) (rI0 fun i j => .int (g i j)) :=
  fun F S H x y vx vy d S' Q hk R rx ry hp hq => by
    unfold pI at hp
    split at hp
    · cases hp
      exact ⟨_, _, rx, ry, hq F H _ (.refl F) R rfl⟩
    · cases hp
def gSub : PI2 := fun i j => some (i - j)
def gMul : PI2 := fun i j => if (i.natAbs < 18446744073709551616 ∨ j.natAbs < 18446744073709551616) ∨ i.natAbs.log2 + j.natAbs.log2 < 1000000 then some (i * j) else none
def gDiv : PI2 := fun i j => if 0 < j ∧ j.natAbs.log2 < 9000 then some (i / j) else none
def gMod : PI2 := fun i j => if 0 < j then some (i % j) else none
def gPow : PI2 := fun i j => if 0 ≤ j ∧ j ≤ 1000000 ∧ i.natAbs < 18446744073709551616 then some (i ^ j.toNat) else none
def gShl : PI2 := fun i j => if 0 ≤ j ∧ j ≤ 1000000 ∧ i.natAbs < 18446744073709551616 then some (i * 2 ^ j.toNat) else none
def gShr : PI2 := fun i j => if 0 ≤ j then some (i / 2 ^ j.toNat) else none
def gAnd : PI2 := fun i j => some (Builtin.bitAnd i j)
def gOr : PI2 := fun i j => some (Builtin.bitOr i j)
def gXor : PI2 := fun i j => some (Builtin.bitXor i j)
abbrev pSub : P2 := pI gSub
abbrev pDiv : P2 := pI gDiv
abbrev pMod : P2 := pI gMod
abbrev pPow : P2 := pI gPow
abbrev pShl : P2 := pI gShl
abbrev pShr : P2 := pI gShr
abbrev pAnd : P2 := pI gAnd
abbrev pOr : P2 := pI gOr
abbrev pXor : P2 := pI gXor
theorem of_ite2 {α : Type} {c : Prop} [Decidable c] {x z : α} (h : (if c then some x else none) = some z) : c ∧ z = x := by
  obtain ⟨h1, h2⟩ := of_ite h
  exact ⟨h1, (Option.some.inj h2).symm⟩
section
variable {X : Cx} {a b : Expr} {f g : DE} {pos : Pos}
theorem ed_sub (ha : ED X a f) (hb : ED X b g) : ED X (.BinOp a .Sub b pos) (dBin pSub f g) := ed_bin op_sub ok_I0 ha hb
theorem ed_div (ha : ED X a f) (hb : ED X b g) : ED X (.BinOp a .FloorDiv b pos) (dBin pDiv f g) := ed_bin op_fdivW (ok_I fun i j k h => by unfold gDiv at h; have h2 := of_ite2 h; exact h2) ha hb
theorem ed_mod (ha : ED X a f) (hb : ED X b g) : ED X (.BinOp a .Mod b pos) (dBin pMod f g) := ed_bin op_mod (ok_I fun i j k h => by unfold gMod at h; have h2 := of_ite2 h; exact h2) ha hb
theorem ed_pow (ha : ED X a f) (hb : ED X b g) : ED X (.BinOp a .Pow b pos) (dBin pPow f g) := ed_bin op_pow (ok_I fun i j k h => by unfold gPow at h; have h2 := of_ite2 h; exact ⟨⟨h2.1.1, h2.1.2.1, by have := h2.1.2.2; omega⟩, h2.2⟩) ha hb
theorem ed_shl (ha : ED X a f) (hb : ED X b g) : ED X (.BinOp a .LShift b pos) (dBin pShl f g) := ed_bin op_shl (ok_I fun i j k h => by unfold gShl at h; have h2 := of_ite2 h; exact ⟨⟨h2.1.1, h2.1.2.1, by have := h2.1.2.2; omega⟩, h2.2⟩) ha hb
theorem ed_shr (ha : ED X a f) (hb : ED X b g) : ED X (.BinOp a .RShift b pos) (dBin pShr f g) := ed_bin op_shr (ok_I fun i j k h => by unfold gShr at h; have h2 := of_ite2 h; exact h2) ha hb
theorem ed_band (ha : ED X a f) (hb : ED X b g) : ED X (.BinOp a .BitAnd b pos) (dBin pAnd f g) := ed_bin op_and ok_I0 ha hb
theorem ed_bor (ha : ED X a f) (hb : ED X b g) : ED X (.BinOp a .BitOr b pos) (dBin pOr f g) := ed_bin op_or ok_I0 ha hb
theorem ed_bxor (ha : ED X a f) (hb : ED X b g) : ED X (.BinOp a .BitXor b pos) (dBin pXor f g) := ed_bin op_xor ok_I0 ha hb
def pNeg : P1 := fun x S => match x with
  | .int i => some (.int (-i), S)
  | _ => none
theorem ed_neg (ha : ED X a f) : ED X (.UnaryOp .USub a pos) (dUn pNeg f) := ed_un un_neg (fun F S H x vx d S' Q hk R rx hp hq => by
  unfold pNeg at hp
  split at hp
  · cases hp
    exact ⟨_, rx, hq F H _ (.refl F) R rfl⟩
  · cases hp) ha
end
/-! ### + and * over more kinds -/
def pAdd : P2 := fun x y S => match x, y with
  | .int i, .int j => some (.int (i + j), S)
  | .str a, .str b => if a.length + b.length ≤ sizeLine then some (.str (a ++ b), S) else none
  | .tup xs, .tup ys => if xs.length + ys.length ≤ sizeLine then some (.tup (xs ++ ys), S) else none
  | x, y => (match asT S x, asT S y with
    | some xs, some ys => if xs.length + ys.length ≤ sizeLine then some (.lst .own (xs ++ ys), S) else none
    | _, _ => none)
def pAddM : P2 := fun x y S => match asT S x, asT S y with
  | some xs, some ys => if xs.length + ys.length ≤ sizeLine then some (.loc S.length, S ++ [.lst (xs ++ ys)]) else none
  | _, _ => none
abbrev rAddAll (K : PySem.W.Frag) : R2 := fun x y H Q => (rI0 fun i j => .int (i + j)) x y H Q ∨ (fun x y H Q => (fun x y H Q => ∃ i j, x = .str i ∧ y = .str j ∧ i.length + j.length ≤ sizeLine ∧ Q (.str (i ++ j)) H) x y H Q ∨ (fun x y H Q => rCat x y H Q ∨ rCatA K x y H Q) x y H Q) x y H Q
theorem op_addAll {X : Cx} : OpR X (binaryOp .Add) (rAddAll X.K) := op_add.or (op_add_str.or (op_cat.or op_catA))
theorem ok_add {K : PySem.W.Frag} : Ok2 K pAdd (rAddAll K) := fun F S H x y vx vy d S' Q hk R rx ry hp hq => by
  unfold pAdd at hp
  split at hp
  · cases hp
    exact .inl ⟨_, _, rx, ry, hq F H _ (.refl F) R rfl⟩
  · obtain ⟨h1, h2⟩ := of_ite hp
    cases h2
    exact .inr (.inl ⟨_, _, rx, ry, h1, hq F H _ (.refl F) R rfl⟩)
  · rename_i xs ys
    obtain ⟨h1, h2⟩ := of_ite hp
    cases h2
    obtain ⟨a, us, rfl, sa, ra⟩ := tup_sq R rx
    obtain ⟨b, ws, rfl, sb, rb⟩ := tup_sq R ry
    rw [hk] at sa sb
    refine .inr (.inr (.inr ⟨a, b, us, ws, rfl, rfl, sa, sb, by rw [← ra.length, ← rb.length]; exact h1, fun e => ?_, fun n e => ?_, fun n1 n2 => new_tup R (ra.append rb) hq⟩))
    · have e2 : xs = [] := List.eq_nil_of_length_eq_zero (by rw [ra.length, e]; rfl)
      subst e2
      exact hq F H _ (.refl F) R ry
    · have e2 : ys = [] := List.eq_nil_of_length_eq_zero (by rw [rb.length, e]; rfl)
      subst e2
      rw [List.append_nil] at hq
      exact hq F H _ (.refl F) R rx
  · split at hp
    · rename_i xs ys h1 h2
      obtain ⟨h3, h4⟩ := of_ite hp
      cases h4
      obtain ⟨a, us, rfl, sa, ra⟩ := asT_sq R rx h1
      obtain ⟨b, ws, rfl, sb, rb⟩ := asT_sq R ry h2
      exact .inr (.inr (.inl ⟨a, b, us, ws, rfl, rfl, sa, sb, by rw [← ra.length, ← rb.length]; exact h3, new_lst R (ra.append rb) hq⟩))
    · cases hp
theorem ok_addM {K : PySem.W.Frag} : Ok2 K pAddM rCat := fun F S H x y vx vy d S' Q hk R rx ry hp hq => by
  unfold pAddM at hp
  split at hp
  · rename_i xs ys h1 h2
    obtain ⟨h3, h4⟩ := of_ite hp
    cases h4
    obtain ⟨a, us, rfl, sa, ra⟩ := asT_sq R rx h1
    obtain ⟨b, ws, rfl, sb, rb⟩ := asT_sq R ry h2
    exact ⟨a, b, us, ws, rfl, rfl, sa, sb, by rw [← ra.length, ← rb.length]; exact h3, new_lstM R (ra.append rb) hq⟩
  · cases hp
def repD (xs : List DV) (k : Nat) : List DV := (List.replicate k xs).flatten
def pMul : P2 := fun x y S => match x, y with
  | .int i, .int j => (match gMul i j with
    | some k => some (.int k, S)
    | none => none)
  | x, .int k => (match asT S x with
    | some xs => if k.natAbs < 9223372036854775808 ∧ xs.length * k.toNat ≤ sizeLine then some (.lst .own (repD xs k.toNat), S) else none
    | none => none)
  | _, _ => none
def pMulM : P2 := fun x y S => match y with
  | .int k => (match asT S x with
    | some xs => if k.natAbs < 9223372036854775808 ∧ xs.length * k.toNat ≤ sizeLine then some (.loc S.length, S ++ [.lst (repD xs k.toNat)]) else none
    | none => none)
  | _ => none
theorem RelL.rep {F : Fm} {ds : List DV} {vs : List V} (r : RelL F ds vs) : ∀ k : Nat, RelL F (repD ds k) (List.replicate k vs).flatten
  | 0 => rfl
  | k + 1 => by
    unfold repD
    rw [List.replicate_succ, List.replicate_succ, List.flatten_cons, List.flatten_cons]
    exact r.append (RelL.rep r k)
def CMulA (i j : Int) : Prop := CMul i j ∨ CMulW i j
theorem gMul_ok {i j : Int} (h : (i.natAbs < 18446744073709551616 ∨ j.natAbs < 18446744073709551616) ∨ i.natAbs.log2 + j.natAbs.log2 < 1000000) : CMulA i j := by
  rcases h with (h | h) | h
  · exact .inl (.inl ⟨by omega, by omega⟩)
  · exact .inl (.inr ⟨by omega, by omega⟩)
  · exact .inr h
theorem op_mulA {X : Cx} : OpR X (binaryOp .Mult) (rI CMulA fun i j => .int (i * j)) := opI fun _ _ _ _ _ _ _ hc q => mul_int q (hc.elim CMul.ok CMulW.ok)
abbrev rMulAll : R2 := fun x y H Q => (rI CMulA fun i j => .int (i * j)) x y H Q ∨ rRep x y H Q
theorem op_mulAll {X : Cx} : OpR X (binaryOp .Mult) rMulAll := op_mulA.or op_rep
theorem ok_mul {K : PySem.W.Frag} : Ok2 K pMul rMulAll := fun F S H x y vx vy d S' Q hk R rx ry hp hq => by
  unfold pMul at hp
  split at hp
  · unfold gMul at hp
    split at hp
    · rename_i k hg
      obtain ⟨h1, rfl⟩ := of_ite2 hg
      cases hp
      exact .inl ⟨_, _, rx, ry, gMul_ok h1, hq F H _ (.refl F) R rfl⟩
    · cases hp
  · split at hp
    · rename_i xs h1
      obtain ⟨⟨h2, h4⟩, h5⟩ := of_ite hp
      cases h5
      obtain ⟨a, us, rfl, sa, ra⟩ := asT_sq R rx h1
      have ey : vy = .int _ := ry
      refine .inr ⟨a, _, us, rfl, ey, sa, by omega, by omega, by rw [← ra.length]; exact h4, new_lst R (ra.rep _) hq⟩
    · cases hp
  · cases hp
theorem ok_mulM {K : PySem.W.Frag} : Ok2 K pMulM rRep := fun F S H x y vx vy d S' Q hk R rx ry hp hq => by
  unfold pMulM at hp
  split at hp
  · split at hp
    · rename_i xs h1
      obtain ⟨⟨h2, h4⟩, h5⟩ := of_ite hp
      cases h5
      obtain ⟨a, us, rfl, sa, ra⟩ := asT_sq R rx h1
      have ey : vy = .int _ := ry
      refine ⟨a, _, us, rfl, ey, sa, by omega, by omega, by rw [← ra.length]; exact h4, new_lstM R (ra.rep _) hq⟩
    · cases hp
  · cases hp

/-! ### == and != -/
mutual
def toPy : DV → Option PyData
  | .non => some .none
  | .bl b => some (.bool b)
  | .int i => some (.int i)
  | .str s => some (.str s)
  | .tup ds => match toPyL ds with
    | some es => some (.tuple es)
    | none => none
  | .lst _ ds => match toPyL ds with
    | some es => some (.list es)
    | none => none
  | _ => none
def toPyL : List DV → Option (List PyData)
  | [] => some []
  | d :: ds => match toPy d with
    | some e => (match toPyL ds with
      | some es => some (e :: es)
      | none => none)
    | none => none
end
mutual
theorem toPy_dp {F : Fm} {H : Hp} (hg : Same F.G H) (hb : Same F.B H) : ∀ (d : DV) (v : V) (e : PyData), Rel F d v → toPy d = some e → Dp F.K H v e
  | .non, v, e, r, h => by
    cases (show some PyData.none = some e from h)
    rw [show v = .non from r]
    exact .non
  | .bl b, v, e, r, h => by
    cases (show some (PyData.bool b) = some e from h)
    rw [show v = .bl b from r]
    exact .bl b
  | .int b, v, e, r, h => by
    cases (show some (PyData.int b) = some e from h)
    rw [show v = .int b from r]
    exact .int b
  | .str b, v, e, r, h => by
    cases (show some (PyData.str b) = some e from h)
    rw [show v = .str b from r]
    exact .str b
  | .tup ds, v, e, r, h => by
    unfold toPy at h
    split at h
    · rename_i es he
      cases h
      obtain ⟨a, xs, rfl, hs, rl⟩ := r
      exact .tup (SqT.of (hg _ _ hs)) (toPyL_dp hg hb ds xs es rl he)
    · cases h
  | .lst k ds, v, e, r, h => by
    unfold toPy at h
    split at h
    · rename_i es he
      cases h
      cases k with
      | own =>
        obtain ⟨a, xs, rfl, hs, rl⟩ := r
        exact .lst (SqL.of (hg _ _ hs)) (toPyL_dp hg hb ds xs es rl he)
      | bor =>
        obtain ⟨a, xs, rfl, hs, rl⟩ := r
        exact .lst (SqL.of (hs.elim (hb _ _) (hg _ _))) (toPyL_dp hg hb ds xs es rl he)
      | ext =>
        obtain ⟨a, xs, rfl, hs, rl⟩ := r
        exact .lst (sqL_same hg hs) (toPyL_dp hg hb ds xs es rl he)
    · cases h
  | .dik _ _ _, v, e, r, h => by cases (show none = some e from h)
  | .tupx _, v, e, r, h => by cases (show none = some e from h)
  | .dit _ _ _, v, e, r, h => by cases (show none = some e from h)
  | .loc _, v, e, r, h => by cases (show none = some e from h)
theorem toPyL_dp {F : Fm} {H : Hp} (hg : Same F.G H) (hb : Same F.B H) : ∀ (ds : List DV) (vs : List V) (es : List PyData), RelL F ds vs → toPyL ds = some es → DpAll F.K H vs es
  | [], vs, es, r, h => by
    cases (show some ([] : List PyData) = some es from h)
    rw [show vs = [] from r]
    exact .nil
  | d :: ds, vs, es, r, h => by
    obtain ⟨x, xr, rfl, h1, h2⟩ := r
    unfold toPyL at h
    split at h
    · rename_i e he
      split at h
      · rename_i es' hes
        cases h
        exact .cons (toPy_dp hg hb d x e h1 he) (toPyL_dp hg hb ds xr es' h2 hes)
      · cases h
    · cases h
end
def scD : DV → DV → Option Bool
  | .non, .non => some true
  | .non, .int _ => some false
  | .int _, .non => some false
  | .non, .str _ => some false
  | .str _, .non => some false
  | .non, .bl _ => some false
  | .bl _, .non => some false
  | .int i, .int j => some (decide (i = j))
  | .bl i, .bl j => some (decide (i = j))
  | .str i, .str j => some (decide (i = j))
  | .int _, .str _ => some false
  | .str _, .int _ => some false
  | .bl _, .str _ => some false
  | .str _, .bl _ => some false
  | _, _ => none
def eqDeep (S : Sto) (x y : DV) : Option Bool := match cpD true S x, cpD true S y with
  | some x', some y' => (match toPy x', toPy y' with
    | some d, some e => if SeqAt.shaped d = true ∧ SeqAt.shaped e = true then some (PyData.eqv d e) else none
    | _, _ => none)
  | _, _ => none
def eqD (S : Sto) (x y : DV) : Option Bool := match scD x y with
  | some b => some b
  | none => eqDeep S x y
def pEq (neg : Bool) : P2 := fun x y S => match eqD S x y with
  | some b => some (.bl (if neg then !b else b), S)
  | none => none
theorem scD_ok {F : Fm} {x y : DV} {vx vy : V} {b : Bool} (rx : Rel F x vx) (ry : Rel F y vy) (h : scD x y = some b) : scal vx vy = true ∧ decide (vx = vy) = b := by
  have g : ∀ {i j : Int}, decide (V.int i = V.int j) = decide (i = j) := fun {i j} => by
    by_cases q : i = j
    · rw [q, decide_eq_true rfl, decide_eq_true rfl]
    · rw [decide_eq_false q, decide_eq_false fun z => q (V.int.inj z)]
  have g2 : ∀ {i j : Bool}, decide (V.bl i = V.bl j) = decide (i = j) := fun {i j} => by
    by_cases q : i = j
    · rw [q, decide_eq_true rfl, decide_eq_true rfl]
    · rw [decide_eq_false q, decide_eq_false fun z => q (V.bl.inj z)]
  have g3 : ∀ {i j : Str}, decide (V.str i = V.str j) = decide (i = j) := fun {i j} => by
    by_cases q : i = j
    · rw [q, decide_eq_true rfl, decide_eq_true rfl]
    · rw [decide_eq_false q, decide_eq_false fun z => q (V.str.inj z)]
  cases x <;> cases y <;> first
    | (cases h; done)
    | (obtain rfl := (show vx = _ from rx)
       obtain rfl := (show vy = _ from ry)
       cases h
       first
        | exact ⟨rfl, rfl⟩
        | exact ⟨rfl, g⟩
        | exact ⟨rfl, g2⟩
        | exact ⟨rfl, g3⟩)
theorem eqDeep_ok {F : Fm} {S : Sto} {H : Hp} {x y : DV} {vx vy : V} {b : Bool} (R : Rep F S H) (rx : Rel F x vx) (ry : Rel F y vy) (h : eqDeep S x y = some b) : ∃ d e, Dp F.K H vx d ∧ Dp F.K H vy e ∧ SeqAt.shaped d = true ∧ SeqAt.shaped e = true ∧ b = PyData.eqv d e := by
  unfold eqDeep at h
  split at h
  · rename_i x' y' hx hy
    split at h
    · rename_i d e hd he
      obtain ⟨⟨s1, s2⟩, rfl⟩ := of_ite2 h
      have r1 : RelL ⟨F.K, F.G, H, fun _ => none, []⟩ [x'] [vx] := cpL_bor R (ds := [x]) (by unfold cpL mapDL mapDL; rw [show mapD true _ x = some x' from hx]) ⟨vx, [], rfl, rx, rfl⟩
      have r2 : RelL ⟨F.K, F.G, H, fun _ => none, []⟩ [y'] [vy] := cpL_bor R (ds := [y]) (by unfold cpL mapDL mapDL; rw [show mapD true _ y = some y' from hy]) ⟨vy, [], rfl, ry, rfl⟩
      obtain ⟨_, _, e1, r1, _⟩ := r1
      obtain ⟨_, _, e2, r2, _⟩ := r2
      cases e1
      cases e2
      exact ⟨d, e, toPy_dp (F := ⟨F.K, F.G, H, fun _ => none, []⟩) R.g (Same.refl _) x' vx d r1 hd, toPy_dp (F := ⟨F.K, F.G, H, fun _ => none, []⟩) R.g (Same.refl _) y' vy e r2 he, s1, s2, rfl⟩
    · cases h
  · cases h
abbrev rEqAll (K : PySem.W.Frag) : R2 := fun x y H Q => rEq x y H Q ∨ rEqD K x y H Q
abbrev rNeAll (K : PySem.W.Frag) : R2 := fun x y H Q => rNe x y H Q ∨ rNeD K x y H Q
theorem ok_eq {K : PySem.W.Frag} : Ok2 K (pEq false) (rEqAll K) := fun F S H x y vx vy d S' Q hk R rx ry hp hq => by
  unfold pEq at hp
  split at hp
  · rename_i b he
    cases hp
    unfold eqD at he
    split at he
    · rename_i b' hs
      cases he
      obtain ⟨h1, h2⟩ := scD_ok rx ry hs
      exact .inl ⟨h1, by rw [h2]; exact hq F H _ (.refl F) R rfl⟩
    · obtain ⟨d, e, h1, h2, h3, h4, rfl⟩ := eqDeep_ok R rx ry he
      rw [hk] at h1 h2
      exact .inr ⟨d, e, h1, h2, h3, h4, hq F H _ (.refl F) R rfl⟩
  · cases hp
theorem ok_ne {K : PySem.W.Frag} : Ok2 K (pEq true) (rNeAll K) := fun F S H x y vx vy d S' Q hk R rx ry hp hq => by
  unfold pEq at hp
  split at hp
  · rename_i b he
    cases hp
    unfold eqD at he
    split at he
    · rename_i b' hs
      cases he
      obtain ⟨h1, h2⟩ := scD_ok rx ry hs
      exact .inl ⟨h1, by rw [h2]; exact hq F H _ (.refl F) R rfl⟩
    · obtain ⟨d, e, h1, h2, h3, h4, rfl⟩ := eqDeep_ok R rx ry he
      rw [hk] at h1 h2
      exact .inr ⟨d, e, h1, h2, h3, h4, hq F H _ (.refl F) R rfl⟩
  · cases hp

/-! ### other comparisons -/
def pCmp (g : Int → Int → Bool) : P2 := fun x y S => match x, y with
  | .int i, .int j => some (.bl (g i j), S)
  | _, _ => none
abbrev pLt : P2 := pCmp fun i j => decide (i < j)
abbrev pLe : P2 := pCmp fun i j => decide (i ≤ j)
abbrev pGt : P2 := pCmp fun i j => decide (j < i)
abbrev pGe : P2 := pCmp fun i j => decide (j ≤ i)
theorem ok_cmp {K : PySem.W.Frag} {g : Int → Int → Bool} : Ok2 K (pCmp g) (rI0 fun i j => .bl (g i j)) := fun F S H x y vx vy d S' Q hk R rx ry hp hq => by
  unfold pCmp at hp
  split at hp
  · cases hp
    exact ⟨_, _, rx, ry, hq F H _ (.refl F) R rfl⟩
  · cases hp
def isNon : DV → Bool
  | .non => true
  | _ => false
def pIs (neg : Bool) : P2 := fun x y S => match y with
  | .non => some (.bl (if neg then !isNon x else isNon x), S)
  | _ => none
theorem isNon_ok {F : Fm} {x : DV} {v : V} (r : Rel F x v) : decide (v = .non) = isNon x := by
  cases x with
  | non =>
    obtain rfl := (show v = _ from r)
    exact decide_eq_true rfl
  | bl b =>
    obtain rfl := (show v = _ from r)
    exact decide_eq_false fun q => nomatch q
  | int b =>
    obtain rfl := (show v = _ from r)
    exact decide_eq_false fun q => nomatch q
  | str b =>
    obtain rfl := (show v = _ from r)
    exact decide_eq_false fun q => nomatch q
  | tup ds =>
    obtain ⟨a, xs, rfl, _⟩ := r
    exact decide_eq_false fun q => nomatch q
  | lst k ds =>
    cases k <;>
    · obtain ⟨a, xs, rfl, _⟩ := r
      exact decide_eq_false fun q => nomatch q
  | tupx ds =>
    obtain ⟨a, xs, rfl, _⟩ := r
    exact decide_eq_false fun q => nomatch q
  | dik k ks ds =>
    obtain ⟨a, xs, rfl, _⟩ := r
    exact decide_eq_false fun q => nomatch q
  | dit k ks ds =>
    obtain ⟨a, xs, rfl, _⟩ := r
    exact decide_eq_false fun q => nomatch q
  | loc n =>
    obtain ⟨a, _, rfl⟩ := r
    exact decide_eq_false fun q => nomatch q
theorem ok_is {K : PySem.W.Frag} : Ok2 K (pIs false) (fun x y H Q => y = .non ∧ Q (.bl (decide (x = .non))) H) := fun F S H x y vx vy d S' Q hk R rx ry hp hq => by
  unfold pIs at hp
  split at hp
  · cases hp
    exact ⟨ry, by rw [isNon_ok rx]; exact hq F H _ (.refl F) R rfl⟩
  · cases hp
theorem ok_isnot {K : PySem.W.Frag} : Ok2 K (pIs true) (fun x y H Q => y = .non ∧ Q (.bl (!decide (x = .non))) H) := fun F S H x y vx vy d S' Q hk R rx ry hp hq => by
  unfold pIs at hp
  split at hp
  · cases hp
    exact ⟨ry, by rw [isNon_ok rx]; exact hq F H _ (.refl F) R rfl⟩
  · cases hp
/-- flat values: as in «in» over a list or tuple -/
def flD : DV → Bool
  | .non => true
  | .bl _ => true
  | .int _ => true
  | .str _ => true
  | _ => false
def eqF : DV → DV → Bool
  | .non, .non => true
  | .bl a, .bl b => a == b
  | .int a, .int b => a == b
  | .str a, .str b => a == b
  | .bl a, .int b => (if a then 1 else 0) == b
  | .int a, .bl b => a == (if b then 1 else 0)
  | _, _ => false
end Dn

namespace Dn
open PySem PySem.Spec PyProof.Rows L2

theorem PE.or {X : Cx} {e : Expr} {t u : TE} (h : PE X e t) (k : PE X e u) : PE X e (fun σ H Q => t σ H Q ∨ u σ H Q) := ⟨fun pins s σ H Q I w => w.elim (h.run pins s σ H Q I) (k.run pins s σ H Q I)⟩
theorem PT.or {X : Cx} {e : Expr} {t u : TT} (h : PT X e t) (k : PT X e u) : PT X e (fun σ H Q => t σ H Q ∨ u σ H Q) := ⟨fun pins s σ H Q I w => w.elim (h.run pins s σ H Q I) (k.run pins s σ H Q I)⟩
theorem PI.or {X : Cx} {tg e : Expr} {t u : TI} (h : PI X tg e t) (k : PI X tg e u) : PI X tg e (fun σ H Q => t σ H Q ∨ u σ H Q) := ⟨fun pins s σ H Q I w => w.elim (h.run pins s σ H Q I) (k.run pins s σ H Q I)⟩

/-! ### flat data -/
theorem flD_ok {F : Fm} {x : DV} {v : V} (r : Rel F x v) (h : flD x = true) : flatV v = true ∧ ∀ {y : DV} {u : V}, Rel F y u → flD y = true → eqV v u = eqF x y := by
  cases x <;> first
    | (cases h; done)
    | (obtain rfl := (show v = _ from r)
       refine ⟨rfl, fun {y u} ry hy => ?_⟩
       cases y <;> first
        | (cases hy; done)
        | (obtain rfl := (show u = _ from ry)
           rfl))
def inD (x : DV) (ds : List DV) : Bool := ds.any fun y => eqF y x
theorem inD_ok {F : Fm} {x : DV} {v : V} (r : Rel F x v) (h : flD x = true) : ∀ {ds : List DV} {vs : List V}, RelL F ds vs → ds.all flD = true → vs.all flatV = true ∧ inV v vs = inD x ds
  | [], vs, rl, _ => by
    obtain rfl := (show vs = [] from rl)
    exact ⟨rfl, rfl⟩
  | d :: ds, vs, rl, ha => by
    obtain ⟨u, ur, rfl, h1, h2⟩ := rl
    rw [List.all_cons] at ha
    obtain ⟨k1, k2⟩ := Bool.and_eq_true_iff.mp ha
    obtain ⟨e1, e2⟩ := inD_ok r h h2 k2
    obtain ⟨f1, f2⟩ := flD_ok h1 k1
    refine ⟨by rw [List.all_cons, f1, e1] <;> rfl, ?_⟩
    have e2' : (ur.any fun y => eqV y v) = ds.any fun y => eqF y x := e2
    show ((u :: ur).any fun y => eqV y v) = (d :: ds).any fun y => eqF y x
    rw [List.any_cons, List.any_cons, f2 r h, e2']

/-! ### dicts -/
def asK (S : Sto) : DV → Option (List Key × List DV)
  | .dik _ ks ds => some (ks, ds)
  | .loc n => match S[n]? with
    | some (.dik ks ds) => some (ks, ds)
    | some (.frz (.dik _ ks ds)) => some (ks, ds)
    | some (.lok ks ds) => some (ks, ds)
    | _ => none
  | _ => none
/-- .. but not of one that is being walked -/
def asK0 (S : Sto) : DV → Option (List Key × List DV)
  | .dik _ ks ds => some (ks, ds)
  | .loc n => match S[n]? with
    | some (.dik ks ds) => some (ks, ds)
    | some (.frz (.dik _ ks ds)) => some (ks, ds)
    | _ => none
  | _ => none
def asKT (S : Sto) : DV → Option (List (List Key) × List DV)
  | .dit _ ks ds => some (ks, ds)
  | .loc n => match S[n]? with
    | some (.dit ks ds) => some (ks, ds)
    | some (.frz (.dit _ ks ds)) => some (ks, ds)
    | _ => none
  | _ => none
def keyD : DV → Option Key
  | .int i => some (.inl i)
  | .str s => some (.inr s)
  | _ => none
def keysD : List DV → Option (List Key)
  | [] => some []
  | d :: ds => match keyD d with
    | some k => (match keysD ds with
      | some ks => some (k :: ks)
      | none => none)
    | none => none
def keyT : DV → Option (List Key)
  | .tup ds => keysD ds
  | _ => none
def lkD {κ : Type} [DecidableEq κ] : List κ → List DV → κ → Option DV
  | k :: ks, d :: ds, j => if k = j then some d else lkD ks ds j
  | _, _, _ => none
def rpG {κ α : Type} [DecidableEq κ] (j : κ) (x : α) : List κ → List α → List α
  | k :: ks, d :: ds => (if k = j then x else d) :: rpG j x ks ds
  | _, _ => []
def hasK {κ : Type} [DecidableEq κ] (ks : List κ) (j : κ) : Bool := ks.any fun k => decide (k = j)
def putKs {κ : Type} [DecidableEq κ] (ks : List κ) (j : κ) : List κ := if hasK ks j = true then ks else ks ++ [j]
def putVs {κ : Type} [DecidableEq κ] (ks : List κ) (ds : List DV) (j : κ) (x : DV) : List DV := if hasK ks j = true then rpG j x ks ds else ds ++ [x]
section
variable {F : Fm} {S : Sto} {H : Hp} {d : DV} {v : V}
theorem asK_ok (R : Rep F S H) (r : Rel F d v) {ks : List Key} {ds : List DV} (h : asK S d = some (ks, ds)) : ∃ a xs, v = .ref a ∧ ks.length = ds.length ∧ Rd H a (.dK (ks.zip xs)) ∧ RelL F ds xs := by
  cases d with
  | dik k es fs =>
    cases (show some (es, fs) = some (ks, ds) from h)
    obtain ⟨a, xs, rfl, hz, h, rl⟩ := r
    exact ⟨a, xs, rfl, hz, .inl (h.elim (R.g _ _) fun h => R.b _ _ h.2), rl⟩
  | loc n =>
    obtain ⟨a, ha, rfl⟩ := r
    unfold asK at h
    simp only at h
    split at h
    · rename_i es fs hc
      cases h
      obtain ⟨⟨xs, hz, e, rl⟩, _⟩ := R.cell n _ a hc ha
      exact ⟨a, xs, rfl, hz, .inl e, rl⟩
    · rename_i k es fs hc
      cases h
      obtain ⟨rl, _⟩ := R.cell n _ a hc ha
      obtain ⟨b, xs, e1, hz, h, rl⟩ := (show Rel F (.dik k ks ds) (.ref a) from rl)
      cases e1
      exact ⟨a, xs, rfl, hz, .inl (h.elim (R.g _ _) fun h => R.b _ _ h.2), rl⟩
    · rename_i es fs hc
      cases h
      obtain ⟨⟨o, xs, hz, e, rl⟩, _⟩ := R.cell n _ a hc ha
      exact ⟨a, xs, rfl, hz, .inr ⟨o, R.p _ _ e⟩, rl⟩
    · cases h
  | _ => cases h
theorem asK0_ok (R : Rep F S H) (r : Rel F d v) {ks : List Key} {ds : List DV} (h : asK0 S d = some (ks, ds)) : ∃ a xs, v = .ref a ∧ ks.length = ds.length ∧ H a = some (.dK (ks.zip xs)) ∧ RelL F ds xs := by
  cases d with
  | dik k es fs =>
    cases (show some (es, fs) = some (ks, ds) from h)
    obtain ⟨a, xs, rfl, hz, h, rl⟩ := r
    exact ⟨a, xs, rfl, hz, h.elim (R.g _ _) fun h => R.b _ _ h.2, rl⟩
  | loc n =>
    obtain ⟨a, ha, rfl⟩ := r
    unfold asK0 at h
    simp only at h
    split at h
    · rename_i es fs hc
      cases h
      obtain ⟨⟨xs, hz, e, rl⟩, _⟩ := R.cell n _ a hc ha
      exact ⟨a, xs, rfl, hz, e, rl⟩
    · rename_i k es fs hc
      cases h
      obtain ⟨rl, _⟩ := R.cell n _ a hc ha
      obtain ⟨b, xs, e1, hz, h, rl⟩ := (show Rel F (.dik k ks ds) (.ref a) from rl)
      cases e1
      exact ⟨a, xs, rfl, hz, h.elim (R.g _ _) fun h => R.b _ _ h.2, rl⟩
    · cases h
  | _ => cases h
theorem asKT_ok (R : Rep F S H) (r : Rel F d v) {ks : List (List Key)} {ds : List DV} (h : asKT S d = some (ks, ds)) : ∃ a xs, v = .ref a ∧ ks.length = ds.length ∧ H a = some (.dT (ks.zip xs)) ∧ RelL F ds xs := by
  cases d with
  | dit k es fs =>
    cases (show some (es, fs) = some (ks, ds) from h)
    obtain ⟨a, xs, rfl, hz, h, rl⟩ := r
    exact ⟨a, xs, rfl, hz, h.elim (R.g _ _) fun h => R.b _ _ h.2, rl⟩
  | loc n =>
    obtain ⟨a, ha, rfl⟩ := r
    unfold asKT at h
    simp only at h
    split at h
    · rename_i es fs hc
      cases h
      obtain ⟨⟨xs, hz, e, rl⟩, _⟩ := R.cell n _ a hc ha
      exact ⟨a, xs, rfl, hz, e, rl⟩
    · rename_i k es fs hc
      cases h
      obtain ⟨rl, _⟩ := R.cell n _ a hc ha
      obtain ⟨b, xs, e1, hz, h, rl⟩ := (show Rel F (.dit k ks ds) (.ref a) from rl)
      cases e1
      exact ⟨a, xs, rfl, hz, h.elim (R.g _ _) fun h => R.b _ _ h.2, rl⟩
    · cases h
  | _ => cases h
theorem keyD_ok {k : Key} (r : Rel F d v) (h : keyD d = some k) : v = kV k := by
  cases d <;> first
    | (cases h; done)
    | (cases h
       exact r)
theorem keysD_ok : ∀ {ds : List DV} {vs : List V} {ks : List Key}, RelL F ds vs → keysD ds = some ks → vs = ks.map kV
  | [], vs, ks, r, h => by
    cases (show some ([] : List Key) = some ks from h)
    exact r
  | d :: ds, vs, ks, r, h => by
    obtain ⟨x, xr, rfl, h1, h2⟩ := r
    unfold keysD at h
    split at h
    · rename_i k hk
      split at h
      · rename_i ks' hks
        cases h
        rw [keyD_ok h1 hk, keysD_ok h2 hks] <;> rfl
      · cases h
    · cases h
theorem lk_ok {κ : Type} [DecidableEq κ] (j : κ) : ∀ {ks : List κ} {ds : List DV} {xs : List V}, RelL F ds xs → (∀ {e : DV}, lkD ks ds j = some e → ∃ x, valV (ks.zip xs) j = some x ∧ Rel F e x) ∧ (ks.length = ds.length → lkD ks ds j = none → valV (ks.zip xs) j = none)
  | [], ds, xs, r => by
    refine ⟨fun {e} h => ?_, fun _ _ => ?_⟩
    · unfold lkD at h
      cases h
    · rw [List.zip_nil_left] <;> rfl
  | k :: ks, [], xs, r => by
    refine ⟨fun {e} h => ?_, fun h => ?_⟩
    · unfold lkD at h
      cases h
    · cases h
  | k :: ks, d :: ds, xs, r => by
    obtain ⟨x, xr, rfl, h1, h2⟩ := r
    obtain ⟨i1, i2⟩ := lk_ok j (ks := ks) h2
    rw [List.zip_cons_cons]
    by_cases q : k = j
    · refine ⟨fun {e} h => ?_, fun _ h => ?_⟩
      · unfold lkD at h
        rw [if_pos q] at h
        cases h
        exact ⟨x, valV_pos q, h1⟩
      · unfold lkD at h
        rw [if_pos q] at h
        cases h
    · refine ⟨fun {e} h => ?_, fun hl h => ?_⟩
      · unfold lkD at h
        rw [if_neg q] at h
        obtain ⟨y, y1, y2⟩ := i1 h
        exact ⟨y, by rw [valV_neg q]; exact y1, y2⟩
      · unfold lkD at h
        rw [if_neg q] at h
        rw [valV_neg q]
        exact i2 (Nat.succ.inj hl) h
end
/-- what a dict has for a key: none: this is no dict or no key -/
def getD (S : Sto) (x k : DV) : Option (Option DV) := match asK S x, keyD k with
  | some (ks, ds), some j => some (lkD ks ds j)
  | _, _ => (match asKT S x, keyT k with
    | some (ks, ds), some j => some (lkD ks ds j)
    | _, _ => none)
theorem getD_ok {F : Fm} {S : Sto} {H : Hp} {x k : DV} {vx vk : V} {o : Option DV} (R : Rep F S H) (rx : Rel F x vx) (rk : Rel F k vk) (h : getD S x k = some o) : ∃ a r, vx = .ref a ∧ DGet H a vk r ∧ (∀ {d}, o = some d → ∃ v, r = some v ∧ Rel F d v) ∧ (o = none → r = none) := by
  unfold getD at h
  split at h
  · rename_i ks ds j h1 h2
    cases h
    obtain ⟨a, xs, rfl, hz, e, rl⟩ := asK_ok R rx h1
    obtain rfl := keyD_ok rk h2
    obtain ⟨i1, i2⟩ := lk_ok (F := F) j (ks := ks) rl
    exact ⟨a, _, rfl, .inl ⟨_, _, e, rfl, rfl⟩, fun {d} q => i1 q, fun q => i2 hz q⟩
  · split at h
    · rename_i ks ds j h1 h2
      cases h
      obtain ⟨a, xs, rfl, hz, e, rl⟩ := asKT_ok R rx h1
      unfold keyT at h2
      split at h2
      · rename_i es
        obtain ⟨b, us, rfl, hH, rb⟩ := tup_at R rk
        obtain rfl := keysD_ok rb h2
        obtain ⟨i1, i2⟩ := lk_ok (F := F) j (ks := ks) rl
        exact ⟨a, _, rfl, .t e hH, fun {d} q => i1 q, fun q => i2 hz q⟩
      · cases h2
    · cases h
end Dn

namespace Dn
open PySem PySem.Spec PyProof.Rows L2

/-! ### in, not in -/
def pIn (neg : Bool) : P2 := fun x y S => match y with
  | .str b => (match x with
    | .str a => (match a.cps.toList with
      | [c] => some (.bl (if neg then !decide (c ∈ b.cps.toList) else decide (c ∈ b.cps.toList)), S)
      | _ => none)
    | _ => none)
  | .tup ds => if flD x = true ∧ ds.all flD = true then some (.bl (if neg then !inD x ds else inD x ds), S) else none
  | .tupx ds => if flD x = true ∧ ds.all flD = true then some (.bl (if neg then !inD x ds else inD x ds), S) else none
  | y => (match asL S y with
    | some ds => if flD x = true ∧ ds.all flD = true then some (.bl (if neg then !inD x ds else inD x ds), S) else
      (match cpD true S x, cpL true S ds with
      | some x', some ds' => (match toPy x', toPyL ds' with
        | some d, some es => if SeqAt.shaped d = true ∧ SeqAt.shaped (.list es) = true then some (.bl (if neg then !es.any (fun z => PyData.eqv z d) else es.any (fun z => PyData.eqv z d)), S) else none
        | _, _ => none)
      | _, _ => none)
    | none => (match getD S y x with
      | some o => some (.bl (if neg then !o.isSome else o.isSome), S)
      | none => none))
abbrev rInSign (neg : Bool) : R2 := fun x y H Q => ∃ (c : Nat) (z : Str), x = .str ⟨#[c]⟩ ∧ y = .str z ∧ Q (.bl (if neg then !decide (c ∈ z.cps.toList) else decide (c ∈ z.cps.toList))) H
abbrev rInSeq3 (K : PySem.W.Frag) (neg : Bool) : R2 := fun x y H Q => rInSign neg x y H Q ∨ (fun x y H Q => rIn K neg x y H Q ∨ (fun x y H Q => ∃ d ds, Dp K H x d ∧ Dp K H y (.list ds) ∧ SeqAt.shaped d = true ∧ SeqAt.shaped (.list ds) = true ∧ Q (.bl (if neg then !ds.any (fun z => PyData.eqv z d) else ds.any fun z => PyData.eqv z d)) H) x y H Q) x y H Q
abbrev rDIn (neg : Bool) : R2 := fun y x H Q => ∃ a o, x = .ref a ∧ DGet H a y o ∧ Q (.bl (if neg then !o.isSome else o.isSome)) H
theorem str_one {a : Str} {c : Nat} (h : a.cps.toList = [c]) : a = ⟨#[c]⟩ := by
  apply TL.ext_tl
  exact h
theorem ok_in {K : PySem.W.Frag} {neg : Bool} : Ok2 K (pIn neg) (fun x y H Q => rInSeq3 K neg x y H Q ∨ rDIn neg x y H Q) := fun F S H x y vx vy d S' Q hk R rx ry hp hq => by
  unfold pIn at hp
  split at hp
  · rename_i b
    split at hp
    · rename_i a
      split at hp
      · rename_i c hc
        cases hp
        refine .inl (.inl ⟨c, b, ?_, ry, hq F H _ (.refl F) R rfl⟩)
        rw [show vx = .str a from rx, str_one hc]
      · cases hp
    · cases hp
  · rename_i ds
    obtain ⟨⟨h1, h2⟩, h3⟩ := of_ite hp
    cases h3
    obtain ⟨a, xs, rfl, hs, rl⟩ := tup_sq R ry
    rw [hk] at hs
    obtain ⟨e1, e2⟩ := inD_ok rx h1 rl h2
    exact .inl (.inr (.inl ⟨a, xs, rfl, .inr hs, (flD_ok rx h1).1, e1, by rw [e2]; exact hq F H _ (.refl F) R rfl⟩))
  · rename_i ds
    obtain ⟨⟨h1, h2⟩, h3⟩ := of_ite hp
    cases h3
    obtain ⟨a, xs, rfl, hs, rl⟩ := tupx_sq R ry
    rw [hk] at hs
    obtain ⟨e1, e2⟩ := inD_ok rx h1 rl h2
    exact .inl (.inr (.inl ⟨a, xs, rfl, .inr hs, (flD_ok rx h1).1, e1, by rw [e2]; exact hq F H _ (.refl F) R rfl⟩))
  · split at hp
    · rename_i ds hL
      obtain ⟨a, xs, rfl, hs, rl⟩ := asL_sq R ry hL
      split at hp
      · rename_i hfl
        cases hp
        rw [hk] at hs
        obtain ⟨e1, e2⟩ := inD_ok rx hfl.1 rl hfl.2
        exact .inl (.inr (.inl ⟨a, xs, rfl, .inl hs, (flD_ok rx hfl.1).1, e1, by rw [e2]; exact hq F H _ (.refl F) R rfl⟩))
      · split at hp
        · rename_i x' ds' hx hds
          split at hp
          · rename_i d0 es hd0 hes
            obtain ⟨⟨s1, s2⟩, h3⟩ := of_ite hp
            cases h3
            have r1 : RelL ⟨F.K, F.G, H, fun _ => none, []⟩ [x'] [vx] := cpL_bor R (ds := [x]) (by unfold cpL mapDL mapDL; rw [show mapD true _ x = some x' from hx]) ⟨vx, [], rfl, rx, rfl⟩
            obtain ⟨_, _, e1, r1, _⟩ := r1
            cases e1
            have r2 := cpL_bor R hds rl
            have d1 := toPy_dp (F := ⟨F.K, F.G, H, fun _ => none, []⟩) R.g (Same.refl _) x' vx d0 r1 hd0
            have d2 := toPyL_dp (F := ⟨F.K, F.G, H, fun _ => none, []⟩) R.g (Same.refl _) ds' xs es r2 hes
            have k1 : Dp K H vx d0 := by rw [← hk]; exact d1
            have k2 : DpAll K H xs es := by rw [← hk]; exact d2
            rw [hk] at hs
            exact .inl (.inr (.inr ⟨d0, es, k1, .lst hs k2, s1, s2, hq F H _ (.refl F) R rfl⟩))
          · cases hp
        · cases hp
    · split at hp
      · rename_i o ho
        cases hp
        obtain ⟨a, r, rfl, hg, i1, i2⟩ := getD_ok R ry rx ho
        refine .inr ⟨a, r, rfl, hg, ?_⟩
        have e : r.isSome = o.isSome := by
          cases o with
          | none => rw [i2 rfl] <;> rfl
          | some d =>
            obtain ⟨v, e1, _⟩ := i1 rfl
            rw [e1] <;> rfl
        rw [e]
        exact hq F H _ (.refl F) R rfl
      · cases hp
section
variable {X : Cx} {a b : Expr} {f g : DE} {pos : Pos}
theorem op_in3 (hu : X.A.units + 64 + 1 < cLine) : OpR X (compareOp .In) (rInSeq3 X.K false) := op_in_sign.or (op_in_seq.or (op_inD (by omega)))
theorem op_notin3 (hu : X.A.units + 64 + 1 < cLine) : OpR X (compareOp .NotIn) (rInSeq3 X.K true) := op_notIn_sign.or (op_notIn_seq.or (op_notInD (by omega)))
theorem op_dIn (hu : X.A.units + 1 < cLine) : OpR X (compareOp .In) (rDIn false) := fun pins s σ H x y v u Q I rx ry h => by
  obtain ⟨d, o, rfl, g, q⟩ := h
  obtain rfl : u = Value.ref d := ry
  exact d_in hu I g rx fun s' I' => ⟨.bl o.isSome, H, I', rfl, q⟩
theorem op_dNotIn (hu : X.A.units + 1 < cLine) : OpR X (compareOp .NotIn) (rDIn true) := fun pins s σ H x y v u Q I rx ry h => by
  obtain ⟨d, o, rfl, g, q⟩ := h
  obtain rfl : u = Value.ref d := ry
  exact d_notIn hu I g rx fun s' I' => ⟨.bl (!o.isSome), H, I', rfl, q⟩
theorem hu65 {k : Nat} {A : Around} (hr : Room k A) : A.units + 64 + 1 < cLine := by have := hr.un; omega
theorem hu1 {k : Nat} {A : Around} (hr : Room k A) : A.units + 1 < cLine := by have := hr.un; omega
theorem hu64 {k : Nat} {A : Around} (hr : Room k A) : A.units + 64 < cLine := by have := hr.un; omega
theorem ed_in {k : Nat} (hr : Room k X.A) (ha : ED X a f) (hb : ED X b g) (hm : behindInMarks .In b = false) : ED X (.Compare a [.In] [b] pos) (dBin (pIn false) f g) := ed_cmp ((op_in3 (hu65 hr)).or (op_dIn (hu1 hr))) ok_in ha hb hm
theorem td_in {k : Nat} (hr : Room k X.A) (ha : ED X a f) (hb : ED X b g) (hm : behindInMarks .In b = false) : TD X (.Compare a [.In] [b] pos) (dBin (pIn false) f g) := td_cmp ((op_in3 (hu65 hr)).or (op_dIn (hu1 hr))) ok_in ha hb hm
theorem ed_notin {k : Nat} (hr : Room k X.A) (ha : ED X a f) (hb : ED X b g) (hm : behindInMarks .NotIn b = false) : ED X (.Compare a [.NotIn] [b] pos) (dBin (pIn true) f g) := ed_cmp ((op_notin3 (hu65 hr)).or (op_dNotIn (hu1 hr))) ok_in ha hb hm
theorem td_notin {k : Nat} (hr : Room k X.A) (ha : ED X a f) (hb : ED X b g) (hm : behindInMarks .NotIn b = false) : TD X (.Compare a [.NotIn] [b] pos) (dBin (pIn true) f g) := td_cmp ((op_notin3 (hu65 hr)).or (op_dNotIn (hu1 hr))) ok_in ha hb hm
/-! comparisons in short -/
theorem ed_eq {k : Nat} (hr : Room k X.A) (ha : ED X a f) (hb : ED X b g) : ED X (.Compare a [.Eq] [b] pos) (dBin (pEq false) f g) := ed_cmp (op_eq.or (op_eqD (hu64 hr))) ok_eq ha hb (nomark _)
theorem td_eq {k : Nat} (hr : Room k X.A) (ha : ED X a f) (hb : ED X b g) : TD X (.Compare a [.Eq] [b] pos) (dBin (pEq false) f g) := td_cmp (op_eq.or (op_eqD (hu64 hr))) ok_eq ha hb (nomark _)
theorem ed_ne {k : Nat} (hr : Room k X.A) (ha : ED X a f) (hb : ED X b g) : ED X (.Compare a [.NotEq] [b] pos) (dBin (pEq true) f g) := ed_cmp (op_ne.or (op_neD (hu64 hr))) ok_ne ha hb (nomark _)
theorem td_ne {k : Nat} (hr : Room k X.A) (ha : ED X a f) (hb : ED X b g) : TD X (.Compare a [.NotEq] [b] pos) (dBin (pEq true) f g) := td_cmp (op_ne.or (op_neD (hu64 hr))) ok_ne ha hb (nomark _)
theorem ed_lt (ha : ED X a f) (hb : ED X b g) : ED X (.Compare a [.Lt] [b] pos) (dBin pLt f g) := ed_cmp op_lt ok_cmp ha hb (nomark _)
theorem td_lt (ha : ED X a f) (hb : ED X b g) : TD X (.Compare a [.Lt] [b] pos) (dBin pLt f g) := td_cmp op_lt ok_cmp ha hb (nomark _)
theorem ed_le (ha : ED X a f) (hb : ED X b g) : ED X (.Compare a [.LtE] [b] pos) (dBin pLe f g) := ed_cmp op_le ok_cmp ha hb (nomark _)
theorem td_le (ha : ED X a f) (hb : ED X b g) : TD X (.Compare a [.LtE] [b] pos) (dBin pLe f g) := td_cmp op_le ok_cmp ha hb (nomark _)
theorem ed_gt (ha : ED X a f) (hb : ED X b g) : ED X (.Compare a [.Gt] [b] pos) (dBin pGt f g) := ed_cmp op_gt ok_cmp ha hb (nomark _)
theorem td_gt (ha : ED X a f) (hb : ED X b g) : TD X (.Compare a [.Gt] [b] pos) (dBin pGt f g) := td_cmp op_gt ok_cmp ha hb (nomark _)
theorem ed_ge (ha : ED X a f) (hb : ED X b g) : ED X (.Compare a [.GtE] [b] pos) (dBin pGe f g) := ed_cmp op_ge ok_cmp ha hb (nomark _)
theorem td_ge (ha : ED X a f) (hb : ED X b g) : TD X (.Compare a [.GtE] [b] pos) (dBin pGe f g) := td_cmp op_ge ok_cmp ha hb (nomark _)
theorem ed_is (ha : ED X a f) (hb : ED X b g) : ED X (.Compare a [.Is] [b] pos) (dBin (pIs false) f g) := ed_cmp op_isN ok_is ha hb (nomark _)
theorem td_is (ha : ED X a f) (hb : ED X b g) : TD X (.Compare a [.Is] [b] pos) (dBin (pIs false) f g) := td_cmp op_isN ok_is ha hb (nomark _)
theorem ed_isnot (ha : ED X a f) (hb : ED X b g) : ED X (.Compare a [.IsNot] [b] pos) (dBin (pIs true) f g) := ed_cmp op_notN ok_isnot ha hb (nomark _)
theorem td_isnot (ha : ED X a f) (hb : ED X b g) : TD X (.Compare a [.IsNot] [b] pos) (dBin (pIs true) f g) := td_cmp op_notN ok_isnot ha hb (nomark _)
theorem ed_add (ha : ED X a f) (hb : ED X b g) : ED X (.BinOp a .Add b pos) (dBin pAdd f g) := ed_bin op_addAll ok_add ha hb
theorem ed_addM (ha : ED X a f) (hb : ED X b g) : ED X (.BinOp a .Add b pos) (dBin pAddM f g) := ed_bin op_cat ok_addM ha hb
theorem ed_mul (ha : ED X a f) (hb : ED X b g) : ED X (.BinOp a .Mult b pos) (dBin pMul f g) := ed_bin op_mulAll ok_mul ha hb
theorem ed_mulM (ha : ED X a f) (hb : ED X b g) : ED X (.BinOp a .Mult b pos) (dBin pMulM f g) := ed_bin op_rep ok_mulM ha hb
end

/-! ### subscripts -/
def atD (ds : List DV) (i : Int) : Option DV := (ixN ds.length i).bind fun j => ds[j]?
theorem atD_ok {F : Fm} {ds : List DV} {xs : List V} {i : Int} {d : DV} (r : RelL F ds xs) (h : atD ds i = some d) : ∃ v, atI xs i = some v ∧ Rel F d v := by
  unfold atD at h
  unfold atI
  rw [← r.length]
  cases e : ixN ds.length i with
  | none =>
    rw [e] at h
    cases h
  | some j =>
    rw [e] at h
    exact r.get (i := j) h
def pIx : P2 := fun x y S => match y with
  | .int i => (match x with
    | .tup ds => (match atD ds i with
      | some d => some (d, S)
      | none => none)
    | .tupx ds => (match atD ds i with
      | some d => some (d, S)
      | none => none)
    | .str s => if s.length ≤ sizeLine then (match atI s.cps.toList i with
      | some c => some (.str ⟨#[c]⟩, S)
      | none => none) else none
    | x => (match asL S x with
      | some ds => (match atD ds i with
        | some d => some (d, S)
        | none => none)
      | none => (match getD S x y with
        | some (some d) => some (d, S)
        | _ => none)))
  | y => (match getD S x y with
    | some (some d) => some (d, S)
    | _ => none)
abbrev rDIx : R2 := fun x y H Q => ∃ a v, x = .ref a ∧ DGet H a y (some v) ∧ Q v H
theorem ix_dict {X : Cx} (hu : X.A.units + 1 < cLine) : IxR X rDIx := by
  intro value slice pins s σ H x y v u Q I rx ry h hs
  obtain ⟨a, z, rfl, g, q⟩ := h
  obtain rfl : v = Value.ref a := rx
  have hT := dict_typeIs I g
  have hget : wpAny (model X.prog X.w) X.A (getItem (.ref a) u) (EP X pins σ Q) X.xe s := d_getItem hu I g ry fun w' s3 I3 rw' => ⟨z, H, I3, rw', q⟩
  unfold subscriptTail
  refine wpAny_bind ?_
  rw [getitemInPython_of_ne hT.not_modules]
  refine wpAny_bind (wpAny_specialOf hT PySem.F.slot_dict_getitem.lookup ?_)
  have fin : wpAny (model X.prog X.w) X.A (subscripted slice false (.ref a) u) (fun r s₃ => wpAny (model X.prog X.w) X.A (letTemporaryGo value (.ref a) r >>= fun _ => pure r) (EP X pins σ Q) X.xe s₃) X.xe s := by
    rw [hs]
    exact wpAny_operating (wpAny_mono hget (fun r s₃ h₃ => wpAny_bind (wpAny_letTemporaryGo (wpAny_pure h₃))) fun _ _ x => x)
  first
    | exact wpAny_pure (wpAny_bind fin)
    | exact wpAny_bind (wpAny_pure (wpAny_bind fin))
    | exact wpAny_bind fin
theorem ok_ix {K : PySem.W.Frag} : Ok2 K pIx (fun x y H Q => rIx K x y H Q ∨ rDIx x y H Q) := fun F S H x y vx vy d S' Q hk R rx ry hp hq => by
  have dict : ∀ {o : Option DV}, getD S x y = some o → (∀ e, o = some e → e = d) → S' = S → o.isSome = true → rDIx vx vy H Q := fun {o} h1 h2 h3 h4 => by
    subst h3
    obtain ⟨a, r, rfl, hg, i1, _⟩ := getD_ok R rx ry h1
    cases o with
    | none => cases h4
    | some e =>
      obtain ⟨v, rfl, e2⟩ := i1 rfl
      have := h2 e rfl
      subst this
      exact ⟨a, v, rfl, hg, hq F H _ (.refl F) R e2⟩
  unfold pIx at hp
  split at hp
  · rename_i i
    split at hp
    · split at hp
      · rename_i e he
        cases hp
        obtain ⟨a, xs, rfl, hs, rl⟩ := tup_sq R rx
        rw [hk] at hs
        obtain ⟨v, e1, e2⟩ := atD_ok rl he
        exact .inl (.inr (.inl ⟨a, xs, i, v, rfl, ry, hs, e1, hq F H _ (.refl F) R e2⟩))
      · cases hp
    · split at hp
      · rename_i e he
        cases hp
        obtain ⟨a, xs, rfl, hs, rl⟩ := tupx_sq R rx
        rw [hk] at hs
        obtain ⟨v, e1, e2⟩ := atD_ok rl he
        exact .inl (.inr (.inl ⟨a, xs, i, v, rfl, ry, hs, e1, hq F H _ (.refl F) R e2⟩))
      · cases hp
    · obtain ⟨h1, hp⟩ := of_ite hp
      split at hp
      · rename_i c hc
        cases hp
        exact .inl (.inr (.inr ⟨_, i, c, rx, ry, h1, hc, hq F H _ (.refl F) R rfl⟩))
      · cases hp
    · split at hp
      · rename_i ds hL
        split at hp
        · rename_i e he
          cases hp
          obtain ⟨a, xs, rfl, hs, rl⟩ := asL_sq R rx hL
          rw [hk] at hs
          obtain ⟨v, e1, e2⟩ := atD_ok rl he
          exact .inl (.inl ⟨a, xs, i, v, rfl, ry, hs, e1, hq F H _ (.refl F) R e2⟩)
        · cases hp
      · split at hp
        · rename_i e he
          cases hp
          exact .inr (dict he (fun e q => (Option.some.inj q).symm) rfl rfl)
        · cases hp
  · split at hp
    · rename_i e he
      cases hp
      exact .inr (dict he (fun e q => (Option.some.inj q).symm) rfl rfl)
    · cases hp
section
variable {X : Cx} {a b e : Expr} {f g : DE} {pos : Pos}
theorem ed_ix {k : Nat} (hr : Room k X.A) (ha : ED X a f) (hb : ED X b g) (hs : PlainIx b) : ED X (.Subscript a b pos) (dBin pIx f g) :=
  .of (pe_ix (IxR.or ix_seq (ix_dict (hu1 hr))) ha.pe hb.pe hs) fun F S H ρ σ d S' Q hk R rr hf hq => bin_go ok_ix hk R rr hf hq

/-! ### slices -/
def cutD (ds : List DV) (lo hi : Option Int) : List DV := (ds.drop (HT.sIx ds.length 0 lo)).take (HT.sIx ds.length ds.length hi - HT.sIx ds.length 0 lo)
theorem cutD_ok {F : Fm} {ds : List DV} {xs : List V} {lo hi : Option Int} (r : RelL F ds xs) : RelL F (cutD ds lo hi) (cutV xs lo hi) := by
  unfold cutD cutV
  rw [r.length]
  exact (r.drop _).take _
abbrev DO := Ev → Sto → Option (Option Int × Sto)
def oNone : DO := fun _ S => some (none, S)
def oSome (f : DE) : DO := fun ρ S => match f ρ S with
  | some (.int i, S1) => some (some i, S1)
  | _ => none
structure OD (X : Cx) (e : Option Expr) (t : TO) (f : DO) : Prop where
  po : PO X e t
  go : ∀ F S H ρ σ o S' (Q : Option Int → Hp → Prop), F.K = X.K → Rep F S H → RelE F ρ σ → f ρ S = some (o, S') → (∀ F' H', Le F F' → F'.K = X.K → Rep F' S' H' → RelE F' ρ σ → Q o H') → t σ H Q
theorem od_none : OD X none tNoPart oNone := ⟨po_none, fun F S H ρ σ o S' Q hk R rr hf hq => by
  cases (show some ((none : Option Int), S) = some (o, S') from hf)
  exact hq F H (.refl F) hk R rr⟩
theorem od_some (h : ED X e f) : OD X (some e) (tPart (rdE X.K f)) (oSome f) := ⟨po_some h.pe, fun F S H ρ σ o S' Q hk R rr hf hq => by
  unfold oSome at hf
  split at hf
  · rename_i i S1 h1
    cases hf
    exact rdE.go hk R rr h1 fun F1 H1 v le hk1 R1 r1 rv => ⟨i, rv, hq F1 H1 le hk1 R1 r1⟩
  · cases hf⟩
def pSl (x : DV) (lo hi : Option Int) (S : Sto) : Option (DV × Sto) := match x with
  | .tup ds => some (.tup (cutD ds lo hi), S)
  | .str s => if s.length ≤ sizeLine then some (.str (cutS s lo hi), S) else none
  | x => (match asL S x with
    | some ds => some (.lst .own (cutD ds lo hi), S)
    | none => none)
def pSlM (x : DV) (lo hi : Option Int) (S : Sto) : Option (DV × Sto) := match asL S x with
  | some ds => some (.loc S.length, S ++ [.lst (cutD ds lo hi)])
  | none => none
def dSl (p : DV → Option Int → Option Int → Sto → Option (DV × Sto)) (f : DE) (lo hi : DO) : DE := fun ρ S => match f ρ S with
  | some (x, S1) => (match lo ρ S1 with
    | some (l, S2) => (match hi ρ S2 with
      | some (u, S3) => p x l u S3
      | none => none)
    | none => none)
  | none => none
def OkSl (K : PySem.W.Frag) (p : DV → Option Int → Option Int → Sto → Option (DV × Sto)) (r : V → Option Int → Option Int → Hp → VK → Prop) : Prop :=
  ∀ F S H x vx lo hi d S' Q, F.K = K → Rep F S H → Rel F x vx → p x lo hi S = some (d, S') → PostE F S' d Q → r vx lo hi H Q
theorem sl_go {K : PySem.W.Frag} {p : DV → Option Int → Option Int → Sto → Option (DV × Sto)} {r : V → Option Int → Option Int → Hp → VK → Prop} {lo hi : Option Expr} {tl th : TO} {l u : DO} (hp : OkSl X.K p r) (h1 : OD X lo tl l) (h2 : OD X hi th u) {F : Fm} {S S' : Sto} {H : Hp} {ρ : Ev} {σ : L2.St} {d : DV} {Q : VK}
    (hk : F.K = X.K) (R : Rep F S H) (rr : RelE F ρ σ) (hf : dSl p f l u ρ S = some (d, S')) (hq : PostE F S' d Q) : tSl r (rdE X.K f) tl th σ H Q := by
  unfold dSl at hf
  split at hf
  · rename_i x S1 e1
    split at hf
    · rename_i l1 S2 e2
      split at hf
      · rename_i u1 S3 e3
        exact rdE.go hk R rr e1 fun F1 H1 v le hk1 R1 r1 rv => h1.go F1 S1 H1 ρ σ l1 S2 _ hk1 R1 r1 e2 fun F2 H2 le2 hk2 R2 r2 => h2.go F2 S2 H2 ρ σ u1 S3 _ hk2 R2 r2 e3 fun F3 H3 le3 hk3 R3 r3 =>
          hp F3 S3 H3 x v l1 u1 d S' Q hk3 R3 (rv.le (le2.trans le3)) hf (hq.le ((le.trans le2).trans le3))
      · cases hf
    · cases hf
  · cases hf
theorem ok_sl {K : PySem.W.Frag} : OkSl K pSl (fun x lo hi H Q => rSlL K x lo hi H Q ∨ (fun x lo hi H Q => rSlA K x lo hi H Q ∨ rSlS x lo hi H Q) x lo hi H Q) := fun F S H x vx lo hi d S' Q hk R rx hp hq => by
  unfold pSl at hp
  split at hp
  · rename_i ds
    cases hp
    obtain ⟨a, xs, e, hs, rl⟩ := tup_sq R rx
    rw [hk] at hs
    refine .inr (.inl ⟨a, xs, e, hs, fun hw => ?_, fun _ => new_tup R (cutD_ok rl) hq⟩)
    refine hq F H _ (.refl F) R ?_
    have e2 : cutD ds lo hi = ds := by
      unfold cutD
      rw [rl.length, hw.1, hw.2]
      rw [List.drop_zero, Nat.sub_zero, ← rl.length, List.take_length]
    rw [e2, ← e]
    exact rx
  · obtain ⟨h1, h2⟩ := of_ite hp
    cases h2
    exact .inr (.inr ⟨_, rx, h1, hq F H _ (.refl F) R rfl⟩)
  · split at hp
    · rename_i ds hL
      cases hp
      obtain ⟨a, xs, rfl, hs, rl⟩ := asL_sq R rx hL
      rw [hk] at hs
      exact .inl ⟨a, xs, rfl, hs, new_lst R (cutD_ok rl) hq⟩
    · cases hp
theorem ok_slM {K : PySem.W.Frag} : OkSl K pSlM (rSlL K) := fun F S H x vx lo hi d S' Q hk R rx hp hq => by
  unfold pSlM at hp
  split at hp
  · rename_i ds hL
    cases hp
    obtain ⟨a, xs, rfl, hs, rl⟩ := asL_sq R rx hL
    rw [hk] at hs
    exact ⟨a, xs, rfl, hs, new_lstM R (cutD_ok rl) hq⟩
  · cases hp
theorem ed_sl {lo hi : Option Expr} {tl th : TO} {l u : DO} {p2 : Pos} (ha : ED X a f) (h1 : OD X lo tl l) (h2 : OD X hi th u) : ED X (.Subscript a (.Slice lo hi none p2) pos) (dSl pSl f l u) :=
  .of (pe_slice (sl_list.or (sl_tupA.or sl_str)) ha.pe h1.po h2.po) fun F S H ρ σ d S' Q hk R rr hf hq => sl_go (K := X.K) ok_sl h1 h2 hk R rr hf hq
theorem ed_slM {lo hi : Option Expr} {tl th : TO} {l u : DO} {p2 : Pos} (ha : ED X a f) (h1 : OD X lo tl l) (h2 : OD X hi th u) : ED X (.Subscript a (.Slice lo hi none p2) pos) (dSl pSlM f l u) :=
  .of (pe_slice sl_list ha.pe h1.po h2.po) fun F S H ρ σ d S' Q hk R rr hf hq => sl_go (K := X.K) ok_slM h1 h2 hk R rr hf hq
end
end Dn

namespace Dn
open PySem PySem.Spec PyProof.Rows L2

/-! ### built-ins -/
def pLen : PL := fun xs S => match xs with
  | [.str s] => if s.length ≤ sizeLine then some (.int s.length, S) else none
  | [.tup ds] => some (.int ds.length, S)
  | [.tupx ds] => some (.int ds.length, S)
  | [x] => (match asL S x with
    | some ds => some (.int ds.length, S)
    | none => (match asK0 S x with
      | some (ks, _) => some (.int ks.length, S)
      | none => (match asKT S x with
        | some (ks, _) => some (.int ks.length, S)
        | none => none)))
  | _ => none
abbrev rLenAll (K : PySem.W.Frag) : List V → Hp → VK → Prop := fun xs H Q => (∃ x n, xs = [x] ∧ LenV K x H n ∧ Q (.int n) H) ∨ (fun xs H Q => (∃ a kvs, xs = [V.ref a] ∧ H a = some (.dK kvs) ∧ Q (.int kvs.length) H) ∨ rLenT xs H Q) xs H Q
theorem call_lenAll {X : Cx} : CallR X (.builtin "len") (rLenAll X.K) := call_len.or (call_lenD.or call_len_dT)
theorem ok_len {K : PySem.W.Frag} : OkL K pLen (rLenAll K) := fun F S H xs vs d S' Q hk R r hp hq => by
  unfold pLen at hp
  split at hp
  · rename_i s
    obtain ⟨h1, h2⟩ := of_ite hp
    cases h2
    obtain ⟨v, _, rfl, rv, e⟩ := r
    obtain rfl := (show _ = [] from e)
    exact .inl ⟨v, s.length, rfl, by rw [show v = .str s from rv]; exact ⟨h1, rfl⟩, hq F H _ (.refl F) R rfl⟩
  · rename_i ds
    cases hp
    obtain ⟨v, _, rfl, rv, e⟩ := r
    obtain rfl := (show _ = [] from e)
    obtain ⟨a, us, rfl, hs, rl⟩ := tup_sq R rv
    rw [hk] at hs
    exact .inl ⟨_, us.length, rfl, .inr ⟨us, hs, rfl⟩, by rw [← rl.length]; exact hq F H _ (.refl F) R rfl⟩
  · rename_i ds
    cases hp
    obtain ⟨v, _, rfl, rv, e⟩ := r
    obtain rfl := (show _ = [] from e)
    obtain ⟨a, us, rfl, hs, rl⟩ := tupx_sq R rv
    rw [hk] at hs
    exact .inl ⟨_, us.length, rfl, .inr ⟨us, hs, rfl⟩, by rw [← rl.length]; exact hq F H _ (.refl F) R rfl⟩
  · obtain ⟨v, _, rfl, rv, e⟩ := r
    obtain rfl := (show _ = [] from e)
    split at hp
    · rename_i ds hL
      cases hp
      obtain ⟨a, us, rfl, hs, rl⟩ := asL_sq R rv hL
      rw [hk] at hs
      exact .inl ⟨_, us.length, rfl, .inl ⟨us, hs, rfl⟩, by rw [← rl.length]; exact hq F H _ (.refl F) R rfl⟩
    · split at hp
      · rename_i ks ds hK
        cases hp
        obtain ⟨a, us, rfl, hz, hs, rl⟩ := asK0_ok R rv hK
        refine .inr (.inl ⟨a, _, rfl, hs, ?_⟩)
        have e : (ks.zip us).length = ks.length := by
          rw [List.length_zip, ← rl.length, hz, Nat.min_self]
        rw [e]
        exact hq F H _ (.refl F) R rfl
      · split at hp
        · rename_i ks ds hK
          cases hp
          obtain ⟨a, us, rfl, hz, hs, rl⟩ := asKT_ok R rv hK
          refine .inr (.inr ⟨a, _, rfl, hs, ?_⟩)
          have e : (ks.zip us).length = ks.length := by
            rw [List.length_zip, ← rl.length, hz, Nat.min_self]
          rw [e]
          exact hq F H _ (.refl F) R rfl
        · cases hp
  · cases hp
/-- int(..) of an int, a truth, a text -/
def pInt : PL := fun xs S => match xs with
  | [.int i] => some (.int i, S)
  | [.bl b] => some (.int (if b then 1 else 0), S)
  | [.str a] => if a.length ≤ 640 then (match PySem.intText? a with
    | some n => some (.int n, S)
    | none => none) else none
  | _ => none
theorem rel1 {F : Fm} {d : DV} {v : V} (h : Rel F d v) : RelL F [d] [v] := ⟨v, [], rfl, h, rfl⟩
theorem one {F : Fm} {d : DV} {vs : List V} (r : RelL F [d] vs) : ∃ v, vs = [v] ∧ Rel F d v := by
  obtain ⟨v, _, rfl, rv, e⟩ := r
  obtain rfl := (show _ = [] from e)
  exact ⟨v, rfl, rv⟩
theorem two {F : Fm} {d e : DV} {vs : List V} (r : RelL F [d, e] vs) : ∃ v u, vs = [v, u] ∧ Rel F d v ∧ Rel F e u := by
  obtain ⟨v, _, rfl, rv, r⟩ := r
  obtain ⟨u, rfl, ru⟩ := one r
  exact ⟨v, u, rfl, rv, ru⟩
abbrev rIntAll : List V → Hp → VK → Prop := fun xs H Q => ((∃ i, xs = [.int i] ∧ Q (.int i) H) ∨ ∃ k, xs = [.bl k] ∧ Q (.int (if k then 1 else 0)) H) ∨ (∃ a n, xs = [.str a] ∧ PySem.intText? a = some n ∧ a.length ≤ 640 ∧ Q (.int n) H)
theorem call_intAll {X : Cx} : CallR X (.type "int") rIntAll := call_int1.or call_int_str
theorem ok_int {K : PySem.W.Frag} : OkL K pInt rIntAll := fun F S H xs vs d S' Q hk R r hp hq => by
  unfold pInt at hp
  split at hp
  · rename_i i
    cases hp
    obtain ⟨v, rfl, rv⟩ := one r
    obtain rfl := (show v = .int i from rv)
    exact .inl (.inl ⟨i, rfl, hq F H _ (.refl F) R rfl⟩)
  · rename_i b
    cases hp
    obtain ⟨v, rfl, rv⟩ := one r
    obtain rfl := (show v = .bl b from rv)
    exact .inl (.inr ⟨b, rfl, hq F H _ (.refl F) R rfl⟩)
  · rename_i a
    obtain ⟨h1, hp⟩ := of_ite hp
    split at hp
    · rename_i n hn
      cases hp
      obtain ⟨v, rfl, rv⟩ := one r
      obtain rfl := (show v = .str a from rv)
      exact .inr ⟨a, n, rfl, hn, h1, hq F H _ (.refl F) R rfl⟩
    · cases hp
  · cases hp
def pStr : PL := fun xs S => match xs with
  | [.int i] => if i.natAbs.log2 < 1920 then some (.str (toString i), S) else none
  | [.str a] => some (.str a, S)
  | _ => none
abbrev rStrAll : List V → Hp → VK → Prop := fun xs H Q => (∃ i : Int, xs = [.int i] ∧ i.natAbs.log2 < 1920 ∧ Q (.str (toString i)) H) ∨ (∃ a, xs = [.str a] ∧ Q (.str a) H)
theorem call_strAll {X : Cx} : CallR X (.type "str") rStrAll := call_str_int.or SkE.call_str_str
theorem ok_str {K : PySem.W.Frag} : OkL K pStr rStrAll := fun F S H xs vs d S' Q hk R r hp hq => by
  unfold pStr at hp
  split at hp
  · rename_i i
    obtain ⟨h1, hp⟩ := of_ite hp
    cases hp
    obtain ⟨v, rfl, rv⟩ := one r
    obtain rfl := (show v = .int i from rv)
    exact .inl ⟨i, rfl, h1, hq F H _ (.refl F) R rfl⟩
  · rename_i b
    cases hp
    obtain ⟨v, rfl, rv⟩ := one r
    obtain rfl := (show v = .str b from rv)
    exact .inr ⟨b, rfl, hq F H _ (.refl F) R rfl⟩
  · cases hp
/-- list(..), tuple(..) -/
def kdv : Key → DV
  | .inl i => .int i
  | .inr s => .str s
theorem kdv_rel {F : Fm} : ∀ ks : List Key, RelL F (ks.map kdv) (ks.map kV)
  | [] => rfl
  | .inl i :: ks => ⟨_, _, rfl, rfl, kdv_rel ks⟩
  | .inr i :: ks => ⟨_, _, rfl, rfl, kdv_rel ks⟩
def itemsD (S : Sto) (x : DV) : Option (List DV) := match x with
  | .tup ds => some ds
  | .tupx ds => some ds
  | x => asL S x
def pList : PL := fun xs S => match xs with
  | [x] => (match itemsD S x with
    | some ds => some (.lst .own ds, S)
    | none => (match asK0 S x with
      | some (ks, _) => some (.lst .own (ks.map kdv), S)
      | none => none))
  | _ => none
def pListM : PL := fun xs S => match xs with
  | [x] => (match itemsD S x with
    | some ds => some (.loc S.length, S ++ [.lst ds])
    | none => (match asK0 S x with
      | some (ks, _) => some (.loc S.length, S ++ [.lst (ks.map kdv)])
      | none => none))
  | _ => none
def pTuple : PL := fun xs S => match xs with
  | [.tup ds] => some (.tup ds, S)
  | [x] => (match asL S x with
    | some ds => some (.tup ds, S)
    | none => none)
  | _ => none
theorem itemsD_sq {F : Fm} {S : Sto} {H : Hp} {x : DV} {v : V} {ds : List DV} (R : Rep F S H) (r : Rel F x v) (h : itemsD S x = some ds) : ∃ a xs, v = .ref a ∧ (SqL F.K H a xs ∨ SqT F.K H a xs) ∧ RelL F ds xs := by
  unfold itemsD at h
  split at h
  · cases h
    obtain ⟨a, us, rfl, hs, rl⟩ := tup_sq R r
    exact ⟨a, us, rfl, .inr hs, rl⟩
  · cases h
    obtain ⟨a, us, rfl, hs, rl⟩ := tupx_sq R r
    exact ⟨a, us, rfl, .inr hs, rl⟩
  · obtain ⟨a, us, rfl, hs, rl⟩ := asL_sq R r h
    exact ⟨a, us, rfl, .inl hs, rl⟩
abbrev rListAll (K : PySem.W.Frag) : List V → Hp → VK → Prop := fun xs H Q => (∃ p ys, xs = [.ref p] ∧ (SqL K H p ys ∨ SqT K H p ys) ∧ ∀ l, H l = none → Q (.ref l) (upd H l (.lst ys))) ∨ rListD xs H Q
theorem call_listAll {X : Cx} (hc : X.calm = true) : CallR X (.type "list") (rListAll X.K) := call_list_of.or (call_list_dK hc)
theorem zip_keys {κ : Type} : ∀ {ks : List κ} {us : List V}, ks.length = us.length → (ks.zip us).map (·.1) = ks
  | [], _, _ => by rw [List.zip_nil_left] <;> rfl
  | k :: ks, [], h => by cases h
  | k :: ks, u :: us, h => by
    rw [List.zip_cons_cons, List.map_cons, zip_keys (Nat.succ.inj h)]
theorem ok_list {K : PySem.W.Frag} : OkL K pList (rListAll K) := fun F S H xs vs d S' Q hk R r hp hq => by
  unfold pList at hp
  split at hp
  · rename_i x
    obtain ⟨v, rfl, rv⟩ := one r
    split at hp
    · rename_i ds hL
      cases hp
      obtain ⟨a, us, rfl, hs, rl⟩ := itemsD_sq R rv hL
      rw [hk] at hs
      exact .inl ⟨a, us, rfl, hs, new_lst R rl hq⟩
    · split at hp
      · rename_i ks ds hK
        cases hp
        obtain ⟨a, us, rfl, hz, hs, rl⟩ := asK0_ok R rv hK
        refine .inr ⟨a, _, rfl, hs, ?_⟩
        have e : (ks.zip us).map (fun kv => kV kv.1) = ks.map kV := by
          have := zip_keys (ks := ks) (us := us) (hz.trans rl.length)
          rw [← this, List.map_map, this] <;> rfl
        rw [e]
        exact new_lst R (kdv_rel ks) hq
      · cases hp
  · cases hp
theorem ok_listM {K : PySem.W.Frag} : OkL K pListM (rListAll K) := fun F S H xs vs d S' Q hk R r hp hq => by
  unfold pListM at hp
  split at hp
  · rename_i x
    obtain ⟨v, rfl, rv⟩ := one r
    split at hp
    · rename_i ds hL
      cases hp
      obtain ⟨a, us, rfl, hs, rl⟩ := itemsD_sq R rv hL
      rw [hk] at hs
      exact .inl ⟨a, us, rfl, hs, new_lstM R rl hq⟩
    · split at hp
      · rename_i ks ds hK
        cases hp
        obtain ⟨a, us, rfl, hz, hs, rl⟩ := asK0_ok R rv hK
        refine .inr ⟨a, _, rfl, hs, ?_⟩
        have e : (ks.zip us).map (fun kv => kV kv.1) = ks.map kV := by
          have := zip_keys (ks := ks) (us := us) (hz.trans rl.length)
          rw [← this, List.map_map, this] <;> rfl
        rw [e]
        exact new_lstM R (kdv_rel ks) hq
      · cases hp
  · cases hp
abbrev rTupAll (K : PySem.W.Frag) : List V → Hp → VK → Prop := fun xs H Q => ∃ p ys, xs = [.ref p] ∧ ((SqL K H p ys ∧ ∀ l, H l = none → Q (.ref l) (upd H l (.tup ys))) ∨ (SqT K H p ys ∧ Q (.ref p) H))
theorem ok_tuple {K : PySem.W.Frag} : OkL K pTuple (rTupAll K) := fun F S H xs vs d S' Q hk R r hp hq => by
  unfold pTuple at hp
  split at hp
  · rename_i ds
    cases hp
    obtain ⟨v, rfl, rv⟩ := one r
    obtain ⟨a, us, e, hs, rl⟩ := tup_sq R rv
    rw [hk] at hs
    exact ⟨a, us, by rw [e], .inr ⟨hs, by rw [← e]; exact hq F H _ (.refl F) R rv⟩⟩
  · obtain ⟨v, rfl, rv⟩ := one r
    split at hp
    · rename_i ds hL
      cases hp
      obtain ⟨a, us, rfl, hs, rl⟩ := asL_sq R rv hL
      rw [hk] at hs
      exact ⟨a, us, rfl, .inl ⟨hs, new_tup R rl hq⟩⟩
    · cases hp
  · cases hp
/-! isinstance(x, T), T a built-in class -/
inductive Ty7 where
  | non | bool | int | str | list | tuple | dict
  deriving DecidableEq
def Ty7.name : Ty7 → String
  | .non => "NoneType"
  | .bool => "bool"
  | .int => "int"
  | .str => "str"
  | .list => "list"
  | .tuple => "tuple"
  | .dict => "dict"
def isT : Ty7 → Ty7 → Bool
  | .bool, .int => true
  | a, b => decide (a = b)
theorem isT_ok : ∀ a b : Ty7, b ≠ .non → kitB a.name b.name = some (isT a b) := by
  intro a b h
  cases a <;> cases b <;> first | exact absurd rfl h | rfl | decide +kernel
def tyD (S : Sto) : DV → Option Ty7
  | .non => some .non
  | .bl _ => some .bool
  | .int _ => some .int
  | .str _ => some .str
  | .tup _ => some .tuple
  | .lst .own _ => some .list
  | .lst .bor _ => some .list
  | .dik _ _ _ => some .dict
  | .dit _ _ _ => some .dict
  | .loc n => match S[n]? with
    | some (.lst _) => some .list
    | some (.dik _ _) => some .dict
    | some (.dit _ _) => some .dict
    | some (.frz (.lst .own _)) => some .list
    | _ => none
  | _ => none
theorem tyD_ok {F : Fm} {S : Sto} {H : Hp} {d : DV} {v : V} {t : Ty7} (R : Rep F S H) (r : Rel F d v) (h : tyD S d = some t) : TyX F.K H v (.type t.name) := by
  cases d with
  | non =>
    cases h
    obtain rfl := (show v = _ from r)
    exact .base .non
  | bl b =>
    cases h
    obtain rfl := (show v = _ from r)
    exact .base (.bl b)
  | int b =>
    cases h
    obtain rfl := (show v = _ from r)
    exact .base (.int b)
  | str b =>
    cases h
    obtain rfl := (show v = _ from r)
    exact .base (.str b)
  | tup ds =>
    cases h
    obtain ⟨a, xs, rfl, hs, _⟩ := tup_at R r
    exact .base (.tup hs)
  | tupx ds => cases h
  | lst k ds =>
    cases k with
    | own =>
      cases h
      obtain ⟨a, xs, rfl, hs, _⟩ := r
      exact .base (.lst (R.g _ _ hs))
    | bor =>
      cases h
      obtain ⟨a, xs, rfl, hs, _⟩ := r
      exact .base (.lst (hs.elim (R.b _ _) (R.g _ _)))
    | ext => cases h
  | dik k ks ds =>
    cases h
    obtain ⟨a, xs, rfl, _, hs, _⟩ := r
    exact .base (.dK (hs.elim (R.g _ _) fun h => R.b _ _ h.2))
  | dit k ks ds =>
    cases h
    obtain ⟨a, xs, rfl, _, hs, _⟩ := r
    exact .base (.dT (hs.elim (R.g _ _) fun h => R.b _ _ h.2))
  | loc n =>
    obtain ⟨a, ha, rfl⟩ := r
    unfold tyD at h
    simp only at h
    split at h
    · rename_i es hc
      cases h
      obtain ⟨⟨xs, e, rl⟩, _⟩ := R.cell n _ a hc ha
      exact .base (.lst e)
    · rename_i es fs hc
      cases h
      obtain ⟨⟨xs, hz, e, rl⟩, _⟩ := R.cell n _ a hc ha
      exact .base (.dK e)
    · rename_i es fs hc
      cases h
      obtain ⟨⟨xs, hz, e, rl⟩, _⟩ := R.cell n _ a hc ha
      exact .base (.dT e)
    · rename_i es hc
      cases h
      obtain ⟨rl, _⟩ := R.cell n _ a hc ha
      obtain ⟨b, xs, e1, hs, _⟩ := (show Rel F (.lst .own es) (.ref a) from rl)
      cases e1
      exact .base (.lst (R.g _ _ hs))
    · cases h
def dIsi (T : Ty7) (f : DE) : DE := fun ρ S => match f ρ S with
  | some (x, S1) => (match tyD S1 x with
    | some t => some (.bl (isT t T), S1)
    | none => none)
  | none => none
section
variable {X : Cx} {e a b : Expr} {f g : DE} {pos : Pos}
theorem isi_go {T : Ty7} (hT : T ≠ .non) {F : Fm} {S S' : Sto} {H : Hp} {ρ : Ev} {σ : L2.St} {d : DV} {Q : VK} (hk : F.K = X.K) (R : Rep F S H) (rr : RelE F ρ σ) (hf : dIsi T f ρ S = some (d, S')) (hq : PostE F S' d Q) :
    tCB (rIsi X.K) (tCons (rdE X.K f) (tCons (tC (.ty T.name)) tNil)) σ H Q := by
  unfold dIsi at hf
  split at hf
  · rename_i x S1 h1
    split at hf
    · rename_i t ht
      cases hf
      refine rdE.go hk R rr h1 fun F1 H1 v le hk1 R1 r1 rv => ?_
      have ty := tyD_ok R1 rv ht
      rw [hk1] at ty
      exact ⟨v, .ty T.name, .type t.name, .type T.name, isT t T, rfl, .ty _, ty, kit_ty (isT_ok t T hT), hq F1 H1 _ le R1 rfl⟩
    · cases hf
  · cases hf
theorem ed_isi {T : Ty7} (hT : T ≠ .non) (ha : ED X a f) (h : ∀ {t : TE}, PE X a t → PE X e (tCB (rIsi X.K) (tCons t (tCons (tC (.ty T.name)) tNil)))) : ED X e (dIsi T f) :=
  .of (h ha.pe) fun F S H ρ σ d S' Q hk R rr hf hq => isi_go hT hk R rr hf hq
end
/-! min, max, sum, any, all -/
def intsD : List DV → Option (List Int)
  | [] => some []
  | .int i :: ds => (match intsD ds with
    | some is => some (i :: is)
    | none => none)
  | _ => none
def blsD : List DV → Option (List Bool)
  | [] => some []
  | .bl i :: ds => (match blsD ds with
    | some is => some (i :: is)
    | none => none)
  | _ => none
def strsD : List DV → Option (List Str)
  | [] => some []
  | .str i :: ds => (match strsD ds with
    | some is => some (i :: is)
    | none => none)
  | _ => none
theorem intsD_ok {F : Fm} : ∀ {ds : List DV} {vs : List V} {is : List Int}, RelL F ds vs → intsD ds = some is → vs = is.map V.int
  | [], vs, is, r, h => by
    cases (show some ([] : List Int) = some is from h)
    exact r
  | d :: ds, vs, is, r, h => by
    unfold intsD at h
    split at h
    · rename_i e
      cases e
    · rename_i i ds' e
      cases e
      split at h
      · rename_i js hj
        cases h
        obtain ⟨x, xr, rfl, h1, h2⟩ := r
        rw [intsD_ok h2 hj, show x = .int i from h1] <;> rfl
      · cases h
    · cases h
theorem blsD_ok {F : Fm} : ∀ {ds : List DV} {vs : List V} {is : List Bool}, RelL F ds vs → blsD ds = some is → vs = is.map V.bl
  | [], vs, is, r, h => by
    cases (show some ([] : List Bool) = some is from h)
    exact r
  | d :: ds, vs, is, r, h => by
    unfold blsD at h
    split at h
    · rename_i e
      cases e
    · rename_i i ds' e
      cases e
      split at h
      · rename_i js hj
        cases h
        obtain ⟨x, xr, rfl, h1, h2⟩ := r
        rw [blsD_ok h2 hj, show x = .bl i from h1] <;> rfl
      · cases h
    · cases h
theorem strsD_ok {F : Fm} : ∀ {ds : List DV} {vs : List V} {is : List Str}, RelL F ds vs → strsD ds = some is → vs = is.map V.str
  | [], vs, is, r, h => by
    cases (show some ([] : List Str) = some is from h)
    exact r
  | d :: ds, vs, is, r, h => by
    unfold strsD at h
    split at h
    · rename_i e
      cases e
    · rename_i i ds' e
      cases e
      split at h
      · rename_i js hj
        cases h
        obtain ⟨x, xr, rfl, h1, h2⟩ := r
        rw [strsD_ok h2 hj, show x = .str i from h1] <;> rfl
      · cases h
    · cases h
def maxI : List Int → Option Int
  | [] => none
  | [i] => some i
  | i :: is => match maxI is with
    | some j => some (if j ≤ i then i else j)
    | none => none
def minI : List Int → Option Int
  | [] => none
  | [i] => some i
  | i :: is => match minI is with
    | some j => some (if i ≤ j then i else j)
    | none => none
theorem maxI_ok : ∀ {is : List Int} {m : Int}, maxI is = some m → m ∈ is ∧ ∀ y ∈ is, y ≤ m
  | [], m, h => by cases h
  | [i], m, h => by
    cases h
    exact ⟨List.mem_singleton.mpr rfl, fun y hy => by rw [List.mem_singleton.mp hy]; exact Int.le_refl _⟩
  | i :: j :: is, m, h => by
    unfold maxI at h
    split at h
    · rename_i k hk
      cases h
      obtain ⟨h1, h2⟩ := maxI_ok hk
      split
      · rename_i hle
        refine ⟨List.mem_cons_self, fun y hy => ?_⟩
        rcases List.mem_cons.mp hy with rfl | hy
        · exact Int.le_refl _
        · exact Int.le_trans (h2 y hy) hle
      · rename_i hle
        refine ⟨List.mem_cons_of_mem _ h1, fun y hy => ?_⟩
        rcases List.mem_cons.mp hy with rfl | hy
        · omega
        · exact h2 y hy
    · cases h
theorem minI_ok : ∀ {is : List Int} {m : Int}, minI is = some m → m ∈ is ∧ ∀ y ∈ is, m ≤ y
  | [], m, h => by cases h
  | [i], m, h => by
    cases h
    exact ⟨List.mem_singleton.mpr rfl, fun y hy => by rw [List.mem_singleton.mp hy]; exact Int.le_refl _⟩
  | i :: j :: is, m, h => by
    unfold minI at h
    split at h
    · rename_i k hk
      cases h
      obtain ⟨h1, h2⟩ := minI_ok hk
      split
      · rename_i hle
        refine ⟨List.mem_cons_self, fun y hy => ?_⟩
        rcases List.mem_cons.mp hy with rfl | hy
        · exact Int.le_refl _
        · exact Int.le_trans hle (h2 y hy)
      · rename_i hle
        refine ⟨List.mem_cons_of_mem _ h1, fun y hy => ?_⟩
        rcases List.mem_cons.mp hy with rfl | hy
        · omega
        · exact h2 y hy
    · cases h
def pMax : PL := fun xs S => match xs with
  | [.int i, .int j] => some (.int (if j > i then j else i), S)
  | [x] => (match asL S x with
    | some ds => (match intsD ds with
      | some is => (match maxI is with
        | some m => some (.int m, S)
        | none => none)
      | none => none)
    | none => none)
  | _ => none
def pMin : PL := fun xs S => match xs with
  | [.int i, .int j] => some (.int (if j < i then j else i), S)
  | [x] => (match asL S x with
    | some ds => (match intsD ds with
      | some is => (match minI is with
        | some m => some (.int m, S)
        | none => none)
      | none => none)
    | none => none)
  | _ => none
abbrev rMaxAll (K : PySem.W.Frag) : List V → Hp → VK → Prop := fun xs H Q => (∃ i j : Int, xs = [.int i, .int j] ∧ Q (.int (if j > i then j else i)) H) ∨ rMax K xs H Q
abbrev rMinAll (K : PySem.W.Frag) : List V → Hp → VK → Prop := fun xs H Q => (∃ i j : Int, xs = [.int i, .int j] ∧ Q (.int (if j < i then j else i)) H) ∨ rMin K xs H Q
theorem call_maxAll {X : Cx} (hc : X.calm = true) : CallR X (.builtin "max") (rMaxAll X.K) := (call_max2 hc).or (cr_max hc)
theorem call_minAll {X : Cx} (hc : X.calm = true) : CallR X (.builtin "min") (rMinAll X.K) := (call_min2 hc).or (cr_min hc)
theorem ok_max {K : PySem.W.Frag} : OkL K pMax (rMaxAll K) := fun F S H xs vs d S' Q hk R r hp hq => by
  unfold pMax at hp
  split at hp
  · rename_i i j
    cases hp
    obtain ⟨v, u, rfl, rv, ru⟩ := two r
    obtain rfl := (show v = .int i from rv)
    obtain rfl := (show u = .int j from ru)
    exact .inl ⟨i, j, rfl, hq F H _ (.refl F) R rfl⟩
  · obtain ⟨v, rfl, rv⟩ := one r
    split at hp
    · rename_i ds hL
      split at hp
      · rename_i is his
        split at hp
        · rename_i m hm
          cases hp
          obtain ⟨a, us, rfl, hs, rl⟩ := asL_sq R rv hL
          rw [hk] at hs
          obtain rfl := intsD_ok rl his
          obtain ⟨m1, m2⟩ := maxI_ok hm
          refine .inr ⟨a, is, rfl, hs, List.length_pos_iff.mpr (List.ne_nil_of_mem m1), fun m' h1 h2 => ?_⟩
          have e : m' = m := Int.le_antisymm (m2 _ h1) (h2 _ m1)
          rw [e]
          exact hq F H _ (.refl F) R rfl
        · cases hp
      · cases hp
    · cases hp
  · cases hp
theorem ok_min {K : PySem.W.Frag} : OkL K pMin (rMinAll K) := fun F S H xs vs d S' Q hk R r hp hq => by
  unfold pMin at hp
  split at hp
  · rename_i i j
    cases hp
    obtain ⟨v, u, rfl, rv, ru⟩ := two r
    obtain rfl := (show v = .int i from rv)
    obtain rfl := (show u = .int j from ru)
    exact .inl ⟨i, j, rfl, hq F H _ (.refl F) R rfl⟩
  · obtain ⟨v, rfl, rv⟩ := one r
    split at hp
    · rename_i ds hL
      split at hp
      · rename_i is his
        split at hp
        · rename_i m hm
          cases hp
          obtain ⟨a, us, rfl, hs, rl⟩ := asL_sq R rv hL
          rw [hk] at hs
          obtain rfl := intsD_ok rl his
          obtain ⟨m1, m2⟩ := minI_ok hm
          refine .inr ⟨a, is, rfl, hs, List.length_pos_iff.mpr (List.ne_nil_of_mem m1), fun m' h1 h2 => ?_⟩
          have e : m' = m := Int.le_antisymm (h2 _ m1) (m2 _ h1)
          rw [e]
          exact hq F H _ (.refl F) R rfl
        · cases hp
      · cases hp
    · cases hp
  · cases hp
def pSum : PL := fun xs S => match xs with
  | [x] => (match asL S x with
    | some ds => (match intsD ds with
      | some is => some (.int is.sum, S)
      | none => none)
    | none => none)
  | _ => none
def pAny : PL := fun xs S => match xs with
  | [x] => (match asL S x with
    | some ds => (match blsD ds with
      | some is => some (.bl (is.any id), S)
      | none => none)
    | none => none)
  | _ => none
def pAll : PL := fun xs S => match xs with
  | [x] => (match asL S x with
    | some ds => (match blsD ds with
      | some is => some (.bl (is.all id), S)
      | none => none)
    | none => none)
  | _ => none
theorem ok_sum {K : PySem.W.Frag} : OkL K pSum (rSum K) := fun F S H xs vs d S' Q hk R r hp hq => by
  unfold pSum at hp
  split at hp
  · obtain ⟨v, rfl, rv⟩ := one r
    split at hp
    · rename_i ds hL
      split at hp
      · rename_i is his
        cases hp
        obtain ⟨a, us, rfl, hs, rl⟩ := asL_sq R rv hL
        rw [hk] at hs
        obtain rfl := intsD_ok rl his
        exact ⟨a, is, rfl, hs, hq F H _ (.refl F) R rfl⟩
      · cases hp
    · cases hp
  · cases hp
theorem ok_any {K : PySem.W.Frag} : OkL K pAny (rAny K) := fun F S H xs vs d S' Q hk R r hp hq => by
  unfold pAny at hp
  split at hp
  · obtain ⟨v, rfl, rv⟩ := one r
    split at hp
    · rename_i ds hL
      split at hp
      · rename_i is his
        cases hp
        obtain ⟨a, us, rfl, hs, rl⟩ := asL_sq R rv hL
        rw [hk] at hs
        obtain rfl := blsD_ok rl his
        exact ⟨a, is, rfl, hs, hq F H _ (.refl F) R rfl⟩
      · cases hp
    · cases hp
  · cases hp
theorem ok_all {K : PySem.W.Frag} : OkL K pAll (rAll K) := fun F S H xs vs d S' Q hk R r hp hq => by
  unfold pAll at hp
  split at hp
  · obtain ⟨v, rfl, rv⟩ := one r
    split at hp
    · rename_i ds hL
      split at hp
      · rename_i is his
        cases hp
        obtain ⟨a, us, rfl, hs, rl⟩ := asL_sq R rv hL
        rw [hk] at hs
        obtain rfl := blsD_ok rl his
        exact ⟨a, is, rfl, hs, hq F H _ (.refl F) R rfl⟩
      · cases hp
    · cases hp
  · cases hp
end Dn

namespace Dn
open PySem PySem.Spec PyProof.Rows L2

/-! ### methods of lists -/
abbrev PM := DV → List DV → Sto → Option (DV × Sto)
def dMt (p : PM) (f : DE) (fa : DA) : DE := fun ρ S => match f ρ S with
  | some (x, S1) => (match asL S1 x with
    | some _ => (match fa ρ S1 with
      | some (xs, S2) => p x xs S2
      | none => none)
    | none => none)
  | none => none
def OkM (K : PySem.W.Frag) (p : PM) (r : V → List V → Hp → VK → Prop) : Prop := ∀ F S H x vx xs vs d S' Q, F.K = K → Rep F S H → Rel F x vx → RelL F xs vs → p x xs S = some (d, S') → PostE F S' d Q → r vx vs H Q
section
variable {X : Cx} {e a b o : Expr} {f g : DE} {fa : DA} {pos : Pos} {st : Stmt}
theorem mt_go {p : PM} {r : V → List V → Hp → VK → Prop} (hp : OkM X.K p r) {F : Fm} {S S' : Sto} {H : Hp} {ρ : Ev} {σ : L2.St} {d : DV} {Q : VK} (hk : F.K = X.K) (R : Rep F S H) (rr : RelE F ρ σ) (hf : dMt p f fa ρ S = some (d, S')) (hq : PostE F S' d Q) :
    tBM X.K "list" r (rdE X.K f) (rdA X.K fa) σ H Q := by
  unfold dMt at hf
  split at hf
  · rename_i x S1 h1
    split at hf
    · rename_i ds hL
      split at hf
      · rename_i xs S2 h2
        refine rdE.go hk R rr h1 fun F1 H1 v le hk1 R1 r1 rv => ?_
        obtain ⟨l, us, rfl, hs, rl⟩ := asL_sq R1 rv hL
        rw [hk1] at hs
        refine ⟨.inl ⟨rfl, us, hs⟩, rdA.go hk1 R1 r1 h2 fun F2 H2 vs le2 hk2 R2 r2 ra => ?_⟩
        exact hp F2 S2 H2 x _ xs vs d S' Q hk2 R2 (rv.le le2) ra hf (hq.le (le.trans le2))
      · cases hf
    · cases hf
  · cases hf
theorem ed_mt {es : List Expr} {p : PM} {r : V → List V → Hp → VK → Prop} (hp : OkM X.K p r) (ho : ED X o f) (ha : AD X es fa) (h : ∀ {t : TA} {u : TE}, PE X o u → PA X es t → PE X e (tBM X.K "list" r u t)) : ED X e (dMt p f fa) :=
  .of (h ho.pe ha.pa) fun F S H ρ σ d S' Q hk R rr hf hq => mt_go hp hk R rr hf hq
theorem ed_mt0 {p : PM} {r : V → List V → Hp → VK → Prop} (hp : OkM X.K p r) (ho : ED X o f) (h : ∀ {u : TE}, PE X o u → PE X e (tBM0 X.K "list" r u)) : ED X e (dMt p f aNil) :=
  .of (h ho.pe) fun F S H ρ σ d S' Q hk R rr hf hq => by
    unfold dMt at hf
    split at hf
    · rename_i x S1 h1
      split at hf
      · rename_i ds hL
        refine rdE.go hk R rr h1 fun F1 H1 v le hk1 R1 r1 rv => ?_
        obtain ⟨l, us, rfl, hs, rl⟩ := asL_sq R1 rv hL
        rw [hk1] at hs
        exact ⟨.inl ⟨rfl, us, hs⟩, hp F1 S1 H1 x _ [] [] d S' Q hk1 R1 rv rfl hf (hq.le le)⟩
      · cases hf
    · cases hf
end
def pAppend : PM := fun x xs S => match x, xs with
  | .loc n, [y] => (match S[n]? with
    | some (.lst ds) => if ds.length < sizeLine then some (.non, S.set n (.lst (ds ++ [y]))) else none
    | _ => none)
  | _, _ => none
def pExtend : PM := fun x xs S => match x, xs with
  | .loc n, [y] => (match S[n]?, asT S y with
    | some (.lst ds), some es => if ds.length + es.length ≤ sizeLine then some (.non, S.set n (.lst (ds ++ es))) else none
    | _, _ => none)
  | _, _ => none
def pPop0 : PM := fun x xs S => match x, xs with
  | .loc n, [] => (match S[n]? with
    | some (.lst ds) => (match ds[ds.length - 1]? with
      | some d => some (d, S.set n (.lst ds.dropLast))
      | none => none)
    | _ => none)
  | _, _ => none
def pPopAt : PM := fun x xs S => match x, xs with
  | .loc n, [.int i] => (match S[n]? with
    | some (.lst ds) => if i.natAbs < 9223372036854775808 then (match ixN ds.length i with
      | some j => (match ds[j]? with
        | some d => some (d, S.set n (.lst (ds.eraseIdx j)))
        | none => none)
      | none => none) else none
    | _ => none)
  | _, _ => none
def pReverse : PM := fun x xs S => match x, xs with
  | .loc n, [] => (match S[n]? with
    | some (.lst ds) => some (.non, S.set n (.lst ds.reverse))
    | _ => none)
  | _, _ => none
def pClear : PM := fun x xs S => match x, xs with
  | .loc n, [] => (match S[n]? with
    | some (.lst _) => some (.non, S.set n (.lst []))
    | _ => none)
  | _, _ => none
def pInsert : PM := fun x xs S => match x, xs with
  | .loc n, [.int i, y] => (match S[n]? with
    | some (.lst ds) => if ds.length < sizeLine ∧ 0 ≤ i ∧ i.natAbs < 9223372036854775808 then some (.non, S.set n (.lst (ds.take i.toNat ++ [y] ++ ds.drop i.toNat))) else none
    | _ => none)
  | _, _ => none
def ixD (y : DV) : List DV → Option Nat
  | [] => none
  | d :: ds => if eqF d y = true then some 0 else (ixD y ds).map (· + 1)
def pIndex : PM := fun x xs S => match xs with
  | [y] => (match asL S x with
    | some ds => if flD y = true ∧ ds.all flD = true then (match ixD y ds with
      | some j => some (.int j, S)
      | none => none) else none
    | none => none)
  | _ => none
theorem lst_write {F : Fm} {S : Sto} {H : Hp} {n : Nat} {ds es : List DV} {vs us : List V} {a : Addr} {v : V} {d : DV} {Q : VK} (R : Rep F S H) (hc : S[n]? = some (.lst ds)) (ha : F.lm[n]? = some a) (rl : RelL F es us) (rd : Rel F d v) (hq : PostE F (S.set n (.lst es)) d Q) : Q v (upd H a (.lst us)) :=
  hq F _ v (.refl F) (R.write hc rfl ha (fun _ q => nomatch q) rfl ⟨us, upd_same, rl⟩) rd
section
variable {K : PySem.W.Frag}
theorem ok_append : OkM K pAppend rAppend := fun F S H x vx xs vs d S' Q hk R rx rl hp hq => by
  unfold pAppend at hp
  split at hp
  · rename_i n y
    split at hp
    · rename_i ds hc
      obtain ⟨h1, h2⟩ := of_ite hp
      cases h2
      obtain ⟨a, ha, rfl⟩ := rx
      obtain ⟨v, rfl, rv⟩ := one rl
      obtain ⟨⟨us, e, ru⟩, _⟩ := R.cell n _ a hc ha
      exact ⟨a, us, v, rfl, rfl, e, by rw [← ru.length]; exact h1, lst_write (vs := us) R hc ha (us := us ++ [v]) (ru.append (rel1 rv)) (d := .non) (v := .non) rfl hq⟩
    · cases hp
  · cases hp
theorem ok_extend : OkM K pExtend rExtend := fun F S H x vx xs vs d S' Q hk R rx rl hp hq => by
  unfold pExtend at hp
  split at hp
  · rename_i n y
    split at hp
    · rename_i ds es hc he
      obtain ⟨h1, h2⟩ := of_ite hp
      cases h2
      obtain ⟨a, ha, rfl⟩ := rx
      obtain ⟨v, rfl, rv⟩ := one rl
      obtain ⟨b, ws, rfl, hb, rb⟩ := asT_sq R rv he
      obtain ⟨⟨us, e, ru⟩, _⟩ := R.cell n _ a hc ha
      exact ⟨a, b, us, ws, rfl, rfl, e, hb, by rw [← ru.length, ← rb.length]; exact h1, lst_write (vs := us) R hc ha (ru.append rb) (d := .non) (v := .non) rfl hq⟩
    · cases hp
  · cases hp
theorem ok_pop0 : OkM K pPop0 rPop := fun F S H x vx xs vs d S' Q hk R rx rl hp hq => by
  unfold pPop0 at hp
  split at hp
  · rename_i n
    split at hp
    · rename_i ds hc
      split at hp
      · rename_i d0 hd
        cases hp
        obtain ⟨a, ha, rfl⟩ := rx
        obtain rfl := rl.nil
        obtain ⟨⟨us, e, ru⟩, _⟩ := R.cell n _ a hc ha
        obtain ⟨v, hv, rv⟩ := ru.get hd
        refine ⟨a, us, v, rfl, rfl, e, by rw [← ru.length]; exact hv, lst_write (vs := us) R hc ha ?_ rv hq⟩
        rw [List.dropLast_eq_take, List.dropLast_eq_take, ← ru.length]
        exact ru.take _
      · cases hp
    · cases hp
  · cases hp
theorem ok_popAt : OkM K pPopAt rPopAt := fun F S H x vx xs vs d S' Q hk R rx rl hp hq => by
  unfold pPopAt at hp
  split at hp
  · rename_i n i
    split at hp
    · rename_i ds hc
      obtain ⟨hi, hp⟩ := of_ite hp
      split at hp
      · rename_i j hj
        split at hp
        · rename_i d0 hd
          cases hp
          obtain ⟨a, ha, rfl⟩ := rx
          obtain ⟨w, rfl, rw_⟩ := one rl
          obtain rfl := (show w = .int i from rw_)
          obtain ⟨⟨us, e, ru⟩, _⟩ := R.cell n _ a hc ha
          obtain ⟨v, hv, rv⟩ := ru.get hd
          exact ⟨a, us, i, j, v, rfl, rfl, e, by omega, by omega, by rw [← ru.length]; exact (ixN_seq hj).1, hv, lst_write (vs := us) R hc ha (ru.eraseIdx _) rv hq⟩
        · cases hp
      · cases hp
    · cases hp
  · cases hp
theorem ok_reverse : OkM K pReverse rReverse := fun F S H x vx xs vs d S' Q hk R rx rl hp hq => by
  unfold pReverse at hp
  split at hp
  · rename_i n
    split at hp
    · rename_i ds hc
      cases hp
      obtain ⟨a, ha, rfl⟩ := rx
      obtain rfl := rl.nil
      obtain ⟨⟨us, e, ru⟩, _⟩ := R.cell n _ a hc ha
      exact ⟨a, us, rfl, rfl, e, lst_write (vs := us) R hc ha ru.rev (d := .non) (v := .non) rfl hq⟩
    · cases hp
  · cases hp
theorem ok_clear : OkM K pClear rClear := fun F S H x vx xs vs d S' Q hk R rx rl hp hq => by
  unfold pClear at hp
  split at hp
  · rename_i n
    split at hp
    · rename_i ds hc
      cases hp
      obtain ⟨a, ha, rfl⟩ := rx
      obtain rfl := rl.nil
      obtain ⟨⟨us, e, ru⟩, _⟩ := R.cell n _ a hc ha
      exact ⟨a, us, rfl, rfl, e, lst_write (vs := us) R hc ha (us := []) (es := []) rfl (d := .non) (v := .non) rfl hq⟩
    · cases hp
  · cases hp
abbrev rInsert : V → List V → Hp → VK → Prop := fun x vs H Q => ∃ (l : Addr) (xs : List V) (i : Int) (y : V), x = .ref l ∧ vs = [.int i, y] ∧ H l = some (.lst xs) ∧ xs.length < sizeLine ∧ 0 ≤ i ∧ i < 2 ^ 63 ∧
    Q .non (upd H l (.lst (xs.take i.toNat ++ [y] ++ xs.drop i.toNat)))
theorem ok_insert : OkM K pInsert rInsert := fun F S H x vx xs vs d S' Q hk R rx rl hp hq => by
  unfold pInsert at hp
  split at hp
  · rename_i n i y
    split at hp
    · rename_i ds hc
      obtain ⟨hi, h2⟩ := of_ite hp
      cases h2
      obtain ⟨a, ha, rfl⟩ := rx
      obtain ⟨w, v, rfl, rw_, rv⟩ := two rl
      obtain rfl := (show w = .int i from rw_)
      obtain ⟨⟨us, e, ru⟩, _⟩ := R.cell n _ a hc ha
      exact ⟨a, us, i, v, rfl, rfl, e, by rw [← ru.length]; exact hi.1, hi.2.1, by omega, lst_write (vs := us) R hc ha (us := us.take i.toNat ++ [v] ++ us.drop i.toNat) (((ru.take _).append (rel1 rv)).append (ru.drop _)) (d := .non) (v := .non) rfl hq⟩
    · cases hp
  · cases hp
theorem ixD_ok {F : Fm} {y : DV} {vy : V} (ry : Rel F y vy) (hy : flD y = true) : ∀ {ds : List DV} {vs : List V} {j : Nat}, RelL F ds vs → ds.all flD = true → ixD y ds = some j →
    vs.all flatV = true ∧ ∃ z, vs[j]? = some z ∧ eqV z vy = true ∧ ∀ (m : Nat) (z' : V), m < j → vs[m]? = some z' → eqV z' vy = false
  | [], vs, j, _, _, h => by cases h
  | d :: ds, vs, j, rl, ha, h => by
    obtain ⟨x, xr, rfl, h1, h2⟩ := rl
    rw [List.all_cons] at ha
    obtain ⟨k1, k2⟩ := Bool.and_eq_true_iff.mp ha
    obtain ⟨f1, f2⟩ := flD_ok h1 k1
    have hall : ∀ {ds : List DV} {vs : List V}, RelL F ds vs → ds.all flD = true → vs.all flatV = true := fun {ds vs} a b => (inD_ok ry hy a b).1
    unfold ixD at h
    split at h
    · rename_i he
      cases h
      exact ⟨by rw [List.all_cons, f1, hall h2 k2] <;> rfl, x, rfl, by rw [f2 ry hy]; exact he, fun m z' hm => absurd hm (Nat.not_lt_zero _)⟩
    · rename_i he
      obtain ⟨j', hj', rfl⟩ := Option.map_eq_some_iff.mp h
      obtain ⟨i1, z, i2, i3, i4⟩ := ixD_ok ry hy h2 k2 hj'
      refine ⟨by rw [List.all_cons, f1, i1] <;> rfl, z, i2, i3, fun m z' hm hz => ?_⟩
      cases m with
      | zero =>
        have e : x = z' := Option.some.inj hz
        rw [← e, f2 ry hy]
        exact Bool.eq_false_iff.mpr he
      | succ m => exact i4 m z' (Nat.lt_of_succ_lt_succ hm) hz
theorem ok_index : OkM K pIndex (rIndex K) := fun F S H x vx xs vs d S' Q hk R rx rl hp hq => by
  unfold pIndex at hp
  split at hp
  · rename_i y
    split at hp
    · rename_i ds hL
      obtain ⟨hfl, hp⟩ := of_ite hp
      split at hp
      · rename_i j hj
        cases hp
        obtain ⟨v, rfl, rv⟩ := one rl
        obtain ⟨a, us, rfl, hs, ru⟩ := asL_sq R rx hL
        rw [hk] at hs
        obtain ⟨i1, z, i2, i3, i4⟩ := ixD_ok rv hfl.1 ru hfl.2 hj
        exact ⟨a, us, v, j, z, rfl, rfl, hs, (flD_ok rv hfl.1).1, i1, i2, i3, i4, hq F H _ (.refl F) R rfl⟩
      · cases hp
    · cases hp
  · cases hp
end

/-! ### methods of texts with one argument -/
def dM1 (p : Str → DV → Sto → Option (DV × Sto)) (f g : DE) : DE := fun ρ S => match f ρ S with
  | some (.str a, S1) => (match g ρ S1 with
    | some (y, S2) => p a y S2
    | none => none)
  | _ => none
section
variable {X : Cx} {e a b o : Expr} {f g : DE} {fa : DA} {pos : Pos} {st : Stmt}
theorem ed_m1 {p : Str → DV → Sto → Option (DV × Sto)} {r : V → List V → Hp → VK → Prop} (hp : ∀ F S H x y vy d S' Q, F.K = X.K → Rep F S H → Rel F y vy → p x y S = some (d, S') → PostE F S' d Q → r (.str x) [vy] H Q)
    (ho : ED X o f) (hb : ED X b g) (h : ∀ {t u : TE}, PE X o t → PE X b u → PE X e (tM1 r t u)) : ED X e (dM1 p f g) :=
  .of (h ho.pe hb.pe) fun F S H ρ σ d S' Q hk R rr hf hq => by
    unfold dM1 at hf
    split at hf
    · rename_i x S1 h1
      split at hf
      · rename_i y S2 h2
        refine rdE.go hk R rr h1 fun F1 H1 v le hk1 R1 r1 rv => ⟨⟨x, rv⟩, rdE.go hk1 R1 r1 h2 fun F2 H2 u le2 hk2 R2 r2 ru => ?_⟩
        obtain rfl := (show v = .str x from rv)
        exact hp F2 S2 H2 x y u d S' Q hk2 R2 ru hf (hq.le (le.trans le2))
      · cases hf
    · cases hf
def pJoin : Str → DV → Sto → Option (DV × Sto) := fun a y S => match itemsD S y with
  | some ds => (match strsD ds with
    | some ys => if (ys.map (·.length)).sum + ys.length * a.length ≤ 16777216 then some (.str (Txt.join a ys), S) else none
    | none => none)
  | none => none
theorem ok_join {K : PySem.W.Frag} (F : Fm) (S : Sto) (H : Hp) (x : Str) (y : DV) (vy : V) (d : DV) (S' : Sto) (Q : VK) (hk : F.K = K) (R : Rep F S H) (ry : Rel F y vy) (hp : pJoin x y S = some (d, S')) (hq : PostE F S' d Q) :
    ∃ a p, ∃ ys : List Str, V.str x = .str a ∧ [vy] = [.ref p] ∧ (SqL K H p (ys.map V.str) ∨ SqT K H p (ys.map V.str)) ∧ (ys.map (·.length)).sum + ys.length * a.length ≤ 16777216 ∧ Q (.str (Txt.join a ys)) H := by
  unfold pJoin at hp
  split at hp
  · rename_i ds hL
    split at hp
    · rename_i ys hy
      obtain ⟨h1, h2⟩ := of_ite hp
      cases h2
      obtain ⟨p, us, rfl, hs, rl⟩ := itemsD_sq R ry hL
      rw [hk] at hs
      obtain rfl := strsD_ok rl hy
      exact ⟨x, p, ys, rfl, rfl, hs, h1, hq F H _ (.refl F) R rfl⟩
    · cases hp
  · cases hp
def pSplit (m : Bool) : Str → DV → Sto → Option (DV × Sto) := fun a y S => match y with
  | .str b => if (b.length == 0) = false ∧ a.length + 2 ≤ sizeLine then (if m then some (.loc S.length, S ++ [.lst ((Txt.split a b).map DV.str)]) else some (.lst .own ((Txt.split a b).map DV.str), S)) else none
  | _ => none
theorem strs_rel {F : Fm} : ∀ ys : List Str, RelL F (ys.map DV.str) (ys.map V.str)
  | [] => rfl
  | y :: ys => ⟨_, _, rfl, rfl, strs_rel ys⟩
theorem ints_rel {F : Fm} : ∀ ys : List Int, RelL F (ys.map DV.int) (ys.map V.int)
  | [] => rfl
  | y :: ys => ⟨_, _, rfl, rfl, ints_rel ys⟩
theorem ok_split {K : PySem.W.Frag} {m : Bool} (F : Fm) (S : Sto) (H : Hp) (x : Str) (y : DV) (vy : V) (d : DV) (S' : Sto) (Q : VK) (hk : F.K = K) (R : Rep F S H) (ry : Rel F y vy) (hp : pSplit m x y S = some (d, S')) (hq : PostE F S' d Q) :
    ∃ a b, V.str x = .str a ∧ [vy] = [.str b] ∧ (b.length == 0) = false ∧ a.length + 2 ≤ sizeLine ∧ rNewStrs (Txt.split a b) H Q := by
  unfold pSplit at hp
  split at hp
  · rename_i b
    obtain ⟨⟨h1, h2⟩, h3⟩ := of_ite hp
    obtain rfl := (show vy = .str b from ry)
    cases m with
    | false =>
      cases h3
      exact ⟨x, b, rfl, rfl, h1, h2, new_lst R (strs_rel _) hq⟩
    | true =>
      cases h3
      exact ⟨x, b, rfl, rfl, h1, h2, new_lstM R (strs_rel _) hq⟩
  · cases hp
def pFind : Str → DV → Sto → Option (DV × Sto) := fun a y S => match y with
  | .str b => some (.int (Txt.find a b), S)
  | _ => none
theorem ok_find (F : Fm) (S : Sto) (H : Hp) (x : Str) (y : DV) (vy : V) (d : DV) (S' : Sto) (Q : VK) (R : Rep F S H) (ry : Rel F y vy) (hp : pFind x y S = some (d, S')) (hq : PostE F S' d Q) :
    ∃ a b, V.str x = .str a ∧ [vy] = [.str b] ∧ Q (.int (Txt.find a b)) H := by
  unfold pFind at hp
  split at hp
  · rename_i b
    cases hp
    obtain rfl := (show vy = .str b from ry)
    exact ⟨x, b, rfl, rfl, hq F H _ (.refl F) R rfl⟩
  · cases hp

/-! ### d.get -/
def isD (S : Sto) (x : DV) : Bool := (asK S x).isSome || (asKT S x).isSome
theorem isD_ok {F : Fm} {S : Sto} {H : Hp} {x : DV} {v : V} (R : Rep F S H) (r : Rel F x v) (h : isD S x = true) : ∃ a, v = .ref a ∧ IsD H a := by
  unfold isD at h
  cases h1 : asK S x with
  | some p =>
    obtain ⟨a, us, rfl, _, e, _⟩ := asK_ok R r (ks := p.1) (ds := p.2) h1
    exact ⟨a, rfl, .inl ⟨_, e⟩⟩
  | none =>
    cases h2 : asKT S x with
    | some p =>
      obtain ⟨a, us, rfl, _, e, _⟩ := asKT_ok R r (ks := p.1) (ds := p.2) h2
      exact ⟨a, rfl, .inr ⟨_, .inl e⟩⟩
    | none =>
      rw [h1, h2] at h
      cases h
def dGet1 (f g : DE) : DE := fun ρ S => match f ρ S with
  | some (x, S1) => if isD S1 x = true then (match g ρ S1 with
    | some (y, S2) => (match getD S2 x y with
      | some (some d) => some (d, S2)
      | some none => some (.non, S2)
      | none => none)
    | none => none) else none
  | none => none
def dGet2 (f g h : DE) : DE := fun ρ S => match f ρ S with
  | some (x, S1) => if isD S1 x = true then (match g ρ S1 with
    | some (y, S2) => (match h ρ S2 with
      | some (z, S3) => (match getD S3 x y with
        | some (some d) => some (d, S3)
        | some none => some (z, S3)
        | none => none)
      | none => none)
    | none => none) else none
  | none => none
theorem ed_get1 (ho : ED X o f) (hb : ED X b g) (h : ∀ {t u : TE}, PE X o t → PE X b u → PE X e (tDGet1 t u)) : ED X e (dGet1 f g) :=
  .of (h ho.pe hb.pe) fun F S H ρ σ d S' Q hk R rr hf hq => by
    unfold dGet1 at hf
    split at hf
    · rename_i x S1 h1
      obtain ⟨hd, hf⟩ := of_ite hf
      split at hf
      · rename_i y S2 h2
        refine rdE.go hk R rr h1 fun F1 H1 v le hk1 R1 r1 rv => ?_
        obtain ⟨a, rfl, ia⟩ := isD_ok R1 rv hd
        refine ⟨a, rfl, ia, rdE.go hk1 R1 r1 h2 fun F2 H2 u le2 hk2 R2 r2 ru => ?_⟩
        split at hf
        · rename_i d0 hg
          cases hf
          obtain ⟨a', r, e, dg, i1, _⟩ := getD_ok R2 (rv.le le2) ru hg
          cases e
          obtain ⟨w, rfl, rw_⟩ := i1 rfl
          exact ⟨_, dg, hq F2 H2 w (le.trans le2) R2 rw_⟩
        · rename_i hg
          cases hf
          obtain ⟨a', r, e, dg, _, i2⟩ := getD_ok R2 (rv.le le2) ru hg
          cases e
          obtain rfl := i2 rfl
          exact ⟨_, dg, hq F2 H2 .non (le.trans le2) R2 rfl⟩
        · cases hf
      · cases hf
    · cases hf
theorem ed_get2 {c : Expr} {h2 : DE} (ho : ED X o f) (hb : ED X b g) (hc : ED X c h2) (h : ∀ {t u w : TE}, PE X o t → PE X b u → PE X c w → PE X e (tDGet2 t u w)) : ED X e (dGet2 f g h2) :=
  .of (h ho.pe hb.pe hc.pe) fun F S H ρ σ d S' Q hk R rr hf hq => by
    unfold dGet2 at hf
    split at hf
    · rename_i x S1 h1
      obtain ⟨hd, hf⟩ := of_ite hf
      split at hf
      · rename_i y S2 h2
        split at hf
        · rename_i z S3 h3
          refine rdE.go hk R rr h1 fun F1 H1 v le hk1 R1 r1 rv => ?_
          obtain ⟨a, rfl, ia⟩ := isD_ok R1 rv hd
          refine ⟨a, rfl, ia, rdE.go hk1 R1 r1 h2 fun F2 H2 u le2 hk2 R2 r2 ru => rdE.go hk2 R2 r2 h3 fun F3 H3 zz le3 hk3 R3 r3 rz => ?_⟩
          split at hf
          · rename_i d0 hg
            cases hf
            obtain ⟨a', r, e, dg, i1, _⟩ := getD_ok R3 (rv.le (le2.trans le3)) (ru.le le3) hg
            cases e
            obtain ⟨w, rfl, rw_⟩ := i1 rfl
            exact ⟨_, dg, hq F3 H3 w ((le.trans le2).trans le3) R3 rw_⟩
          · rename_i hg
            cases hf
            obtain ⟨a', r, e, dg, _, i2⟩ := getD_ok R3 (rv.le (le2.trans le3)) (ru.le le3) hg
            cases e
            obtain rfl := i2 rfl
            exact ⟨_, dg, hq F3 H3 zz ((le.trans le2).trans le3) R3 rz⟩
          · cases hf
        · cases hf
      · cases hf
    · cases hf
theorem ed_dnewK (h : PE X e tDNewK) : ED X e (fun _ S => some (.loc S.length, S ++ [.dik [] []])) :=
  .of h fun F S H ρ σ d S' Q hk R rr hf hq p hp => by
    cases hf
    have R' := R.alloc (o := .dK []) (c := .dik [] []) hp (fun _ q => nomatch q) ⟨[], rfl, upd_same, rfl⟩
    exact hq _ _ _ (F.cell_le p) R' ⟨p, by rw [← R.len]; exact get_len _ _, rfl⟩
theorem ed_dnewT (h : PE X e tDNewT) : ED X e (fun _ S => some (.loc S.length, S ++ [.dit [] []])) :=
  .of h fun F S H ρ σ d S' Q hk R rr hf hq p hp => by
    cases hf
    have R' := R.alloc (o := .dT []) (c := .dit [] []) hp (fun _ q => nomatch q) ⟨[], rfl, upd_same, rfl⟩
    exact hq _ _ _ (F.cell_le p) R' ⟨p, by rw [← R.len]; exact get_len _ _, rfl⟩

/-! ### o[i] = v -/
def setI (x i y : DV) (S : Sto) : Option Sto := match x with
  | .loc n => (match S[n]? with
    | some (.lst ds) => (match i with
      | .int k => (match ixN ds.length k with
        | some j => some (S.set n (.lst (ds.set j y)))
        | none => none)
      | _ => none)
    | some (.dik ks ds) => (match keyD i with
      | some k => if ks.length < sizeLine then some (S.set n (.dik (putKs ks k) (putVs ks ds k y))) else none
      | none => none)
    | some (.dit ks ds) => (match keyT i with
      | some k => if ks.length < sizeLine then some (S.set n (.dit (putKs ks k) (putVs ks ds k y))) else none
      | none => none)
    | _ => none)
  | _ => none
end
theorem any_zip {κ : Type} [DecidableEq κ] {j : κ} : ∀ {ks : List κ} {xs : List V}, ks.length = xs.length → ((ks.zip xs).any fun kv => decide (kv.1 = j)) = hasK ks j
  | [], _, _ => by rw [List.zip_nil_left] <;> rfl
  | k :: ks, [], h => by cases h
  | k :: ks, x :: xs, h => by
    have ih := any_zip (j := j) (Nat.succ.inj h)
    unfold hasK at ih ⊢
    rw [List.zip_cons_cons, List.any_cons, List.any_cons, ih]
theorem rp_zip {κ : Type} [DecidableEq κ] {j : κ} {v : V} : ∀ {ks : List κ} {xs : List V}, ks.length = xs.length → ks.zip (rpG j v ks xs) = (ks.zip xs).map fun kv => if kv.1 = j then (kv.1, v) else kv
  | [], _, _ => by rw [List.zip_nil_left, List.zip_nil_left] <;> rfl
  | k :: ks, [], h => by cases h
  | k :: ks, x :: xs, h => by
    have ih := rp_zip (j := j) (v := v) (Nat.succ.inj h)
    unfold rpG
    rw [List.zip_cons_cons, List.zip_cons_cons, List.map_cons, ih]
    by_cases q : k = j
    · simp only [if_pos q]
    · simp only [if_neg q]
theorem rp_len {κ α : Type} [DecidableEq κ] {j : κ} {x : α} : ∀ {ks : List κ} {xs : List α}, ks.length = xs.length → (rpG j x ks xs).length = ks.length
  | [], _, _ => rfl
  | k :: ks, [], h => by cases h
  | k :: ks, y :: xs, h => by
    unfold rpG
    rw [List.length_cons, List.length_cons, rp_len (Nat.succ.inj h)]
theorem rp_rel {κ : Type} [DecidableEq κ] {F : Fm} {j : κ} {y : DV} {v : V} (ry : Rel F y v) : ∀ {ks : List κ} {ds : List DV} {xs : List V}, RelL F ds xs → RelL F (rpG j y ks ds) (rpG j v ks xs)
  | [], _, _, _ => rfl
  | k :: ks, [], xs, h => by
    obtain rfl := h.nil
    exact rfl
  | k :: ks, d :: ds, xs, h => by
    obtain ⟨x, xr, rfl, h1, h2⟩ := h
    refine ⟨_, _, rfl, ?_, rp_rel ry h2⟩
    by_cases q : k = j
    · rw [if_pos q, if_pos q]
      exact ry
    · rw [if_neg q, if_neg q]
      exact h1
/-- a dict's values behind a store -/
theorem put_ok {κ : Type} [DecidableEq κ] {F : Fm} {j : κ} {y : DV} {v : V} (ry : Rel F y v) {ks : List κ} {ds : List DV} {xs : List V} (hz : ks.length = ds.length) (rl : RelL F ds xs) :
    ∃ ys, (putKs ks j).length = (putVs ks ds j y).length ∧ RelL F (putVs ks ds j y) ys ∧ putK (ks.zip xs) j v = (putKs ks j).zip ys := by
  have hx : ks.length = xs.length := hz.trans rl.length
  unfold putKs putVs putK
  rw [any_zip hx]
  by_cases q : hasK ks j = true
  · rw [if_pos q, if_pos q, if_pos q]
    exact ⟨rpG j v ks xs, (rp_len hz).symm, rp_rel ry rl, (rp_zip hx).symm⟩
  · rw [if_neg q, if_neg q, if_neg q]
    refine ⟨xs ++ [v], by simp [hz], rl.append (rel1 ry), ?_⟩
    rw [List.zip_append hx] <;> rfl
def rSetD : V → V → V → Hp → (Hp → Prop) → Prop := fun o i v H Q => ∃ a H', o = .ref a ∧ DPut H a i v H' ∧ Q H'
theorem set_dict {X : Cx} (hu : X.A.units + 1 < cLine) : PSet X rSetD := fun pins s σ H o i v ov iv u Q I ro ri rv h => by
  obtain ⟨a, H', rfl, g, q⟩ := h
  obtain rfl : ov = Value.ref a := ro
  exact d_setItem hu I g ri rv fun s' I' => ⟨H', I', q⟩
theorem PSet.or {X : Cx} {t u : TSet} (h : PSet X t) (k : PSet X u) : PSet X (fun o i v H Q => t o i v H Q ∨ u o i v H Q) := fun pins s σ H o i v ov iv w Q I ro ri rv h' => h'.elim (h pins s σ H o i v ov iv w Q I ro ri rv) (k pins s σ H o i v ov iv w Q I ro ri rv)
theorem setI_ok {F : Fm} {S S' : Sto} {H : Hp} {x i y : DV} {vx vi vy : V} {Q : Hp → Prop} (R : Rep F S H) (rx : Rel F x vx) (ri : Rel F i vi) (ry : Rel F y vy) (h : setI x i y S = some S') (hq : ∀ H', Rep F S' H' → Q H') : rSetL vx vi vy H Q ∨ rSetD vx vi vy H Q := by
  unfold setI at h
  split at h
  · rename_i n
    obtain ⟨a, ha, rfl⟩ := rx
    split at h
    · rename_i ds hc
      split at h
      · rename_i k
        split at h
        · rename_i j hj
          cases h
          obtain rfl := (show vi = .int k from ri)
          obtain ⟨⟨us, e, ru⟩, _⟩ := R.cell n _ a hc ha
          exact .inl ⟨a, us, k, j, rfl, rfl, e, by rw [← ru.length]; exact hj, hq _ (R.write hc rfl ha (fun _ q => nomatch q) rfl ⟨us.set j vy, upd_same, ru.set ry j⟩)⟩
        · cases h
      · cases h
    · rename_i ks ds hc
      split at h
      · rename_i k hk
        obtain ⟨h1, h⟩ := of_ite h
        cases h
        obtain rfl := keyD_ok ri hk
        obtain ⟨⟨us, hz, e, ru⟩, _⟩ := R.cell n _ a hc ha
        obtain ⟨ys, p1, p2, p3⟩ := put_ok (j := k) ry hz ru
        have hl : (ks.zip us).length < sizeLine := by
          rw [List.length_zip, ← ru.length, hz, Nat.min_self, ← hz]
          exact h1
        refine .inr ⟨a, _, rfl, DPut.k e hl, hq _ ?_⟩
        rw [p3]
        exact R.write hc rfl ha (fun _ q => nomatch q) rfl ⟨ys, p1, upd_same, p2⟩
      · cases h
    · rename_i ks ds hc
      split at h
      · rename_i k hk
        obtain ⟨h1, h⟩ := of_ite h
        cases h
        unfold keyT at hk
        split at hk
        · rename_i es
          obtain ⟨b, ws, rfl, hb, rb⟩ := tup_at R ri
          obtain rfl := keysD_ok rb hk
          obtain ⟨⟨us, hz, e, ru⟩, _⟩ := R.cell n _ a hc ha
          obtain ⟨ys, p1, p2, p3⟩ := put_ok (j := k) ry hz ru
          have hl : (ks.zip us).length < sizeLine := by
            rw [List.length_zip, ← ru.length, hz, Nat.min_self, ← hz]
            exact h1
          refine .inr ⟨a, _, rfl, DPut.t e hb hl, hq _ ?_⟩
          rw [p3]
          exact R.write hc rfl ha (fun _ q => nomatch q) rfl ⟨ys, p1, upd_same, p2⟩
        · cases hk
      · cases h
    · cases h
  · cases h
def dSub (v o i : DE) : DS := fun ρ S => match v ρ S with
  | some (y, S1) => (match o ρ S1 with
    | some (x, S2) => (match i ρ S2 with
      | some (k, S3) => (match setI x k y S3 with
        | some S4 => some (.nx ρ S4)
        | none => none)
      | none => none)
    | none => none)
  | none => none
section
variable {X : Cx} {e a b o : Expr} {f g : DE} {fa : DA} {pos : Pos} {st : Stmt}
theorem sd_sub {v : DE} (h : PS X st (tAsg (rdE X.K v) (L2.gSub (rdE X.K f) (rdE X.K g) (fun o i v H Q => rSetL o i v H Q ∨ rSetD o i v H Q)))) : SD X st (dSub v f g) := .of h fun F S H ρ σ o D hk R rr hf hq => by
  unfold dSub at hf
  split at hf
  · rename_i y S1 h1
    split at hf
    · rename_i x S2 h2
      split at hf
      · rename_i k S3 h3
        split at hf
        · rename_i S4 h4
          cases hf
          exact rdE.go hk R rr h1 fun F1 H1 vy le1 hk1 R1 r1 ry => rdE.go hk1 R1 r1 h2 fun F2 H2 vx le2 hk2 R2 r2 rx => rdE.go hk2 R2 r2 h3 fun F3 H3 vk le3 hk3 R3 r3 rk =>
            setI_ok R3 (rx.le le3) rk (ry.le (le2.trans le3)) h4 fun H' R' => hq F3 H' ((le1.trans le2).trans le3) R' σ r3
        · cases hf
      · cases hf
    · cases hf
  · cases hf
/-- x += e over ints -/
def dAug (i : Nat) (p : P2) (f : DE) : DS := fun ρ S => match ρ[i]? with
  | some (some x) => (match f ρ S with
    | some (y, S1) => (match p x y S1 with
      | some (d, S2) => some (.nx (ρ.set i (some d)) S2)
      | none => none)
    | none => none)
  | _ => none
theorem sd_aug {i : Nat} {p : P2} {t : TIp} (hp : Ok2 X.K p t) (h : PS X st (tAug i (rdE X.K f) t)) : SD X st (dAug i p f) := .of h fun F S H ρ σ o D hk R rr hf hq => by
  unfold dAug at hf
  split at hf
  · rename_i x hx
    split at hf
    · rename_i y S1 h1
      split at hf
      · rename_i d S2 h2
        cases hf
        obtain ⟨vx, e1, rx⟩ := rr.at_ i x hx
        exact ⟨vx, e1, rdE.go hk R rr h1 fun F1 H1 vy le1 hk1 R1 r1 ry => hp F1 S1 H1 x y vx vy d S2 _ hk1 R1 (rx.le le1) ry h2 fun F2 H2 v le2 R2 rv => hq F2 H2 (le1.trans le2) R2 _ ((r1.le le2).set i rv)⟩
      · cases hf
    · cases hf
  · cases hf
abbrev pAddI : P2 := pI fun i j => some (i + j)
theorem ok_ipadd {K : PySem.W.Frag} : Ok2 K pAddI (ipI fun i j => i + j) := ok_I0
theorem ok_ipsub {K : PySem.W.Frag} : Ok2 K pSub (ipI fun i j => i - j) := ok_I0

/-! ### what loops walk -/
def iSeq (f : DE) : DI := fun ρ S => match f ρ S with
  | some (x, S1) => (match x with
    | .tup ds => some (ds, S1)
    | .tupx ds => some (ds, S1)
    | .lst _ ds => some (ds, S1)
    | .str s => some (s.cps.toList.map fun c => .str ⟨#[c]⟩, S1)
    | .loc n => (match S1[n]? with
      | some (.frz (.lst _ ds)) => some (ds, S1)
      | _ => none)
    | _ => none)
  | none => none
theorem walks_list {F : Fm} {a : Addr} {ds : List DV} (h : ∀ F' S H, Wk F F' → Rep F' S H → ∃ xs, SqL F.K H a xs ∧ RelL F' ds xs) : Walks (Itl F.K a) F ds := fun i F' S H w _ R => by
  obtain ⟨xs, hs, rl⟩ := h F' S H w R
  refine ⟨fun e => ⟨xs, hs, by rw [e, rl.length]; exact Nat.le_refl _⟩, fun d hd => ?_⟩
  obtain ⟨x, hx, rx⟩ := rl.get hd
  refine ⟨⟨xs, x, hs, hx⟩, fun y H' yl => ?_⟩
  obtain ⟨rfl, y2⟩ := yl
  have e := (y2 xs hs).symm.trans hx
  cases e
  exact ⟨F', .refl F', R, rx⟩
theorem walks_tup {F : Fm} {a : Addr} {ds : List DV} (h : ∀ F' S H, Wk F F' → Rep F' S H → ∃ xs, SqT F.K H a xs ∧ RelL F' ds xs) : Walks (Itt F.K a) F ds := fun i F' S H w _ R => by
  obtain ⟨xs, hs, rl⟩ := h F' S H w R
  refine ⟨fun e => ⟨xs, hs, by rw [e, rl.length]; exact Nat.le_refl _⟩, fun d hd => ?_⟩
  obtain ⟨x, hx, rx⟩ := rl.get hd
  refine ⟨⟨xs, x, hs, hx⟩, fun y H' yl => ?_⟩
  obtain ⟨rfl, y2⟩ := yl
  have e := (y2 xs hs).symm.trans hx
  cases e
  exact ⟨F', .refl F', R, rx⟩
theorem walks_str {F : Fm} {s : Str} : Walks (Its s) F (s.cps.toList.map fun c => .str ⟨#[c]⟩) := fun i F' S H w _ R => by
  refine ⟨fun e => ?_, fun d hd => ?_⟩
  · have : i = s.cps.size := by simpa using e
    show s.cps.size ≤ i
    omega
  · rw [List.getElem?_map] at hd
    cases e : s.cps.toList[i]? with
    | none =>
      rw [e] at hd
      cases hd
    | some c =>
      rw [e] at hd
      cases hd
      have e2 : s.cps[i]? = some c := by simpa using e
      refine ⟨(Array.getElem?_eq_some_iff.mp e2).1, fun x H' y => ?_⟩
      obtain ⟨rfl, c', h1, rfl⟩ := y
      rw [e2] at h1
      cases h1
      exact ⟨F', .refl F', R, rfl⟩
theorem walks_range {F : Fm} {lo : Int} {n : Nat} : Walks (Itr lo n) F ((List.range n).map fun i => .int (lo + (i : Nat))) := fun i F' S H w _ R => by
  refine ⟨fun e => ?_, fun d hd => ?_⟩
  · have : i = n := by simpa using e
    show n ≤ i
    omega
  · rw [List.getElem?_map] at hd
    cases e : (List.range n)[i]? with
    | none =>
      rw [e] at hd
      cases hd
    | some c =>
      rw [e] at hd
      cases hd
      obtain ⟨h1, h2⟩ := List.getElem?_eq_some_iff.mp e
      rw [List.getElem_range] at h2
      subst h2
      refine ⟨(by simpa using h1 : i < n), fun x H' y => ?_⟩
      obtain ⟨rfl, rfl⟩ := y
      exact ⟨F', .refl F', R, rfl⟩
theorem walks_rangeC {F : Fm} {lo c : Int} {n : Nat} : Walks (Itc lo c n) F ((List.range n).map fun i => .int (lo + (i : Nat) * c)) := fun i F' S H w _ R => by
  refine ⟨fun e => ?_, fun d hd => ?_⟩
  · have : i = n := by simpa using e
    show n ≤ i
    omega
  · rw [List.getElem?_map] at hd
    cases e : (List.range n)[i]? with
    | none =>
      rw [e] at hd
      cases hd
    | some k =>
      rw [e] at hd
      cases hd
      obtain ⟨h1, h2⟩ := List.getElem?_eq_some_iff.mp e
      rw [List.getElem_range] at h2
      subst h2
      refine ⟨(by simpa using h1 : i < n), fun x H' y => ?_⟩
      obtain ⟨rfl, rfl⟩ := y
      exact ⟨F', .refl F', R, rfl⟩
theorem seq_src {F : Fm} {S : Sto} {H : Hp} {k : LK} {ds : List DV} {v : V} (R : Rep F S H) (rv : Rel F (.lst k ds) v) : ∃ a, v = .ref a ∧ (∃ xs, SqL F.K H a xs) ∧ Walks (Itl F.K a) F ds := by
  obtain ⟨a, xs, rfl, hs, _⟩ := rv.lstSq R
  refine ⟨a, rfl, ⟨xs, hs⟩, walks_list fun F' S' H' w R' => ?_⟩
  obtain ⟨a', xs', e, hs', rl'⟩ := (Rel.wk w _ _ rv).lstSq R'
  cases e
  rw [w.k] at hs'
  exact ⟨xs', hs', rl'⟩
theorem id_seq {tg : Expr} (h : ED X e f) : ID X tg e (iSeq f) :=
  .of (PI.or (pi_list h.pe) (PI.or (pi_tup h.pe) (pi_str h.pe))) fun F S H ρ σ ds S' Q hk R rr hf hq => by
    unfold iSeq at hf
    split at hf
    · rename_i x S1 h1
      split at hf
      · rename_i es
        cases hf
        refine .inr (.inl (rdE.go hk R rr h1 fun F1 H1 v le hk1 R1 r1 rv => ?_))
        obtain ⟨a, xs, rfl, hs, rl⟩ := rv
        rw [← hk1]
        refine ⟨a, rfl, ⟨xs, SqT.of (R1.g _ _ hs)⟩, hq _ F1 H1 le R1 (walks_tup fun F' S' H' w R' => ⟨xs, SqT.of (R'.g _ _ (w.g _ _ hs)), RelL.wk w _ _ rl⟩)⟩
      · rename_i es
        cases hf
        refine .inr (.inl (rdE.go hk R rr h1 fun F1 H1 v le hk1 R1 r1 rv => ?_))
        obtain ⟨a, xs, rfl, hs, rl⟩ := rv
        rw [← hk1]
        refine ⟨a, rfl, ⟨xs, sqT_same R1.g hs⟩, hq _ F1 H1 le R1 (walks_tup fun F' S' H' w R' => ⟨xs, sqT_same R'.g (sqT_same w.g hs), RelL.wk w _ _ rl⟩)⟩
      · rename_i k es
        cases hf
        refine .inl (rdE.go hk R rr h1 fun F1 H1 v le hk1 R1 r1 rv => ?_)
        obtain ⟨a, rfl, hs, hw⟩ := seq_src R1 rv
        rw [← hk1]
        exact ⟨a, rfl, hs, hq _ F1 H1 le R1 hw⟩
      · rename_i s
        cases hf
        refine .inr (.inr (rdE.go hk R rr h1 fun F1 H1 v le hk1 R1 r1 rv => ?_))
        exact ⟨s, rv, hq _ F1 H1 le R1 walks_str⟩
      · rename_i n
        split at hf
        · rename_i k es hc
          cases hf
          refine .inl (rdE.go hk R rr h1 fun F1 H1 v le hk1 R1 r1 rv => ?_)
          obtain ⟨a, ha, rfl⟩ := rv
          obtain ⟨rl, _⟩ := R1.cell n _ a hc ha
          obtain ⟨a', e, hs, hw⟩ := seq_src R1 (show Rel F1 (.lst k ds) (.ref a) from rl)
          cases e
          rw [← hk1]
          exact ⟨a, rfl, hs, hq _ F1 H1 le R1 hw⟩
        · cases hf
      · cases hf
    · cases hf
def rgD (lo : Int) (n : Nat) : List DV := (List.range n).map fun i => .int (lo + (i : Nat))
def iRange1 (f : DA) : DI := fun ρ S => match f ρ S with
  | some ([.int j], S1) => if j.natAbs < 4611686018427387904 then some (rgD 0 j.toNat, S1) else none
  | _ => none
def iRange2 (f : DA) : DI := fun ρ S => match f ρ S with
  | some ([.int i, .int j], S1) => if i.natAbs < 4611686018427387904 ∧ j.natAbs < 4611686018427387904 then some (rgD i (j - i).toNat, S1) else none
  | _ => none
theorem id_range1 {tg : Expr} {es : List Expr} (ha : AD X es fa) (h : ∀ {t : TA}, PA X es t → PI X tg e (iRng1 t)) : ID X tg e (iRange1 fa) :=
  .of (h ha.pa) fun F S H ρ σ ds S' Q hk R rr hf hq => by
    unfold iRange1 at hf
    split at hf
    · rename_i j S1 h1
      obtain ⟨hb, hf⟩ := of_ite hf
      cases hf
      refine rdA.go hk R rr h1 fun F1 H1 vs le hk1 R1 r1 rl => ?_
      obtain ⟨v, rfl, rv⟩ := one rl
      obtain rfl := (show v = .int j from rv)
      exact ⟨j, rfl, by omega, by omega, hq _ F1 H1 le R1 walks_range⟩
    · cases hf
theorem id_range2 {tg : Expr} {es : List Expr} (ha : AD X es fa) (h : ∀ {t : TA}, PA X es t → PI X tg e (iRng2 t)) : ID X tg e (iRange2 fa) :=
  .of (h ha.pa) fun F S H ρ σ ds S' Q hk R rr hf hq => by
    unfold iRange2 at hf
    split at hf
    · rename_i i j S1 h1
      obtain ⟨hb, hf⟩ := of_ite hf
      cases hf
      refine rdA.go hk R rr h1 fun F1 H1 vs le hk1 R1 r1 rl => ?_
      obtain ⟨v, u, rfl, rv, ru⟩ := two rl
      obtain rfl := (show v = .int i from rv)
      obtain rfl := (show u = .int j from ru)
      exact ⟨i, j, rfl, ⟨by omega, by omega, by omega, by omega⟩, hq _ F1 H1 le R1 walks_range⟩
    · cases hf
def enD : Nat → List DV → List DV
  | _, [] => []
  | i, d :: ds => .tup [.int (i : Nat), d] :: enD (i + 1) ds
theorem enD_get : ∀ {ds : List DV} {k i : Nat}, (enD k ds)[i]? = (ds[i]?).map fun d => .tup [.int ((k + i : Nat) : Int), d]
  | [], k, i => by unfold enD; simp
  | d :: ds, k, 0 => by unfold enD; simp
  | d :: ds, k, i + 1 => by
    unfold enD
    rw [List.getElem?_cons_succ, List.getElem?_cons_succ, enD_get]
    have e : k + 1 + i = k + (i + 1) := by omega
    rw [e]
theorem enD_len : ∀ {ds : List DV} {k : Nat}, (enD k ds).length = ds.length
  | [], k => rfl
  | d :: ds, k => by
    unfold enD
    rw [List.length_cons, List.length_cons, enD_len]
def valL (S : Sto) : DV → Option (List DV)
  | .lst _ ds => some ds
  | .loc n => match S[n]? with
    | some (.frz (.lst _ ds)) => some ds
    | _ => none
  | _ => none
theorem valL_ok {F : Fm} {S : Sto} {H : Hp} {x : DV} {v : V} {ds : List DV} (R : Rep F S H) (r : Rel F x v) (h : valL S x = some ds) : ∃ k, Rel F (.lst k ds) v := by
  unfold valL at h
  split at h
  · rename_i k es
    cases h
    exact ⟨k, r⟩
  · rename_i n
    split at h
    · rename_i k es hc
      cases h
      obtain ⟨a, ha, rfl⟩ := r
      obtain ⟨rl, _⟩ := R.cell n _ a hc ha
      exact ⟨k, rl⟩
    · cases h
  · cases h
def iEnum (f : DA) : DI := fun ρ S => match f ρ S with
  | some ([x], S1) => (match valL S1 x with
    | some ds => some (enD 0 ds, S1)
    | none => none)
  | _ => none
theorem walks_enum {F : Fm} {a : Addr} {ds : List DV} (h : ∀ F' S H, Wk F F' → Rep F' S H → ∃ xs, SqL F.K H a xs ∧ RelL F' ds xs) : Walks (Ite F.K a) F (enD 0 ds) := fun i F' S H w _ R => by
  obtain ⟨xs, hs, rl⟩ := h F' S H w R
  refine ⟨fun e => ⟨xs, hs, by rw [e, enD_len, rl.length]; exact Nat.le_refl _⟩, fun d hd => ?_⟩
  rw [enD_get] at hd
  cases hd0 : ds[i]? with
  | none =>
    rw [hd0] at hd
    cases hd
  | some d0 =>
    rw [hd0] at hd
    cases hd
    obtain ⟨x, hx, rx⟩ := rl.get hd0
    refine ⟨⟨xs, x, hs, hx⟩, fun y H' yl => ?_⟩
    obtain ⟨T, x', rfl, hT, rfl, hy⟩ := yl
    have e := (hy xs hs).symm.trans hx
    cases e
    obtain ⟨R', le⟩ := R.add (o := .tup [.int (i : Nat), x]) hT
    exact ⟨_, le, R', T, _, rfl, upd_same, .cons (by rw [Nat.zero_add]; exact rfl) (.cons (rx.le le) rfl)⟩
theorem id_enum {tg : Expr} {es : List Expr} (ha : AD X es fa) (h : ∀ {t : TA}, PA X es t → PI X tg e (L2.iEnum X.K t)) : ID X tg e (iEnum fa) :=
  .of (h ha.pa) fun F S H ρ σ ds S' Q hk R rr hf hq => by
    unfold iEnum at hf
    split at hf
    · rename_i x S1 h1
      split at hf
      · rename_i es hv
        cases hf
        refine rdA.go hk R rr h1 fun F1 H1 vs le hk1 R1 r1 rl => ?_
        obtain ⟨v, rfl, rv⟩ := one rl
        obtain ⟨k, rv⟩ := valL_ok R1 rv hv
        obtain ⟨a, xs, rfl, hs, _⟩ := rv.lstSq R1
        rw [← hk1]
        refine ⟨a, xs, rfl, hs, hq _ F1 H1 le R1 (walks_enum fun F' S' H' w R' => ?_)⟩
        obtain ⟨a', xs', e, hs', rl'⟩ := (Rel.wk w _ _ rv).lstSq R'
        cases e
        rw [w.k] at hs'
        exact ⟨xs', hs', rl'⟩
      · cases hf
    · cases hf
end
end Dn

namespace Dn
open PySem PySem.Spec PyProof.Rows L2

/-! ### a def that is ready to be called -/
structure FnC (P : Program) (w : World) (K : PySem.W.Frag) (mg : Str → Option Value) (base : Heap) (x : Str) (k : Nat) (ps : List Str) (dvs : List V) (f : PL) : Prop where
  ex : ∃ (a : Addr) (fd : FuncData) (ds : List Value), mg x = some (.ref a) ∧ FnOk P w K mg base CX0 k a fd ps (spS K ps.length f) ∧ PySem.W.keepIn K (.ref a) = true ∧ Binds K fd ps ds ∧ Vals dvs ds
section
variable {X : Cx} {x : Str} {k j : Nat} {ps : List Str} {dvs : List V} {f : PL} {dds : List DV} {p pos : Pos} {e a b : Expr} {es : List Expr} {fa : DA}
theorem FnC.pe (C : FnC X.prog X.w X.K X.mg X.base x k ps dvs f) (hr : Room j X.A) (hj : k ≤ j) (hg : Gl X x) {t : TA} (ha : PA X (e :: es) t) (hdb : (x == ("__debug__" : Str)) = false := by decide)
    (he : starEach (e :: es) X.env = (false, eval e X.env) :: starEach es X.env := by rfl) (hpl : (backTo pos (starEach es X.env)).any (·.1) = false := by rfl) :
    PE X (.Call (.Name x p) (e :: es) [] pos) (tCall (spS X.K ps.length f) dvs E0 t) := by
  obtain ⟨a, fd, ds, h1, h2, h3, h4, h5⟩ := C.ex
  exact pe_call h2 (hr.mono hj) hg h1 h3 h4 h5 pass0 ha hdb he hpl
theorem ed_callS (C : FnC X.prog X.w X.K X.mg X.base x k ps dvs (runF np n b0)) (hn : ps.length = np) (hr : Room j X.A) (hj : k ≤ j) (hg : Gl X x) (hd : ∀ F : Fm, RelL F dds dvs) (ha : AD X (e :: es) fa) (hdb : (x == ("__debug__" : Str)) = false := by decide)
    (he : starEach (e :: es) X.env = (false, eval e X.env) :: starEach es X.env := by rfl) (hpl : (backTo pos (starEach es X.env)).any (·.1) = false := by rfl) :
    ED X (.Call (.Name x p) (e :: es) [] pos) (dPrim (cS (runF np n b0) dds) fa) := by
  subst hn
  exact ed_call (fun {t} ha => C.pe hr hj hg ha hdb he hpl) (ok_cS hd runF_len) ha
theorem ed_callP (C : FnC X.prog X.w X.K X.mg X.base x k ps dvs (runF np n b0)) (hn : ps.length = np) (hr : Room j X.A) (hj : k ≤ j) (hg : Gl X x) (hd : ∀ F : Fm, RelL F dds dvs) (ha : AD X (e :: es) fa) (hdb : (x == ("__debug__" : Str)) = false := by decide)
    (he : starEach (e :: es) X.env = (false, eval e X.env) :: starEach es X.env := by rfl) (hpl : (backTo pos (starEach es X.env)).any (·.1) = false := by rfl) :
    ED X (.Call (.Name x p) (e :: es) [] pos) (dPrim (cP (pureOf (runF np n b0)) dds) fa) := by
  subst hn
  exact ed_call (fun {t} ha => C.pe hr hj hg ha hdb he hpl) (ok_cP hd runF_len) ha
theorem ed_callM (C : FnC X.prog X.w X.K X.mg X.base x k ps dvs (runF np n b0)) (hn : ps.length = np) (hr : Room j X.A) (hj : k ≤ j) (hg : Gl X x) (hd : ∀ F : Fm, RelL F dds dvs) (ha : AD X (e :: es) fa) (hdb : (x == ("__debug__" : Str)) = false := by decide)
    (he : starEach (e :: es) X.env = (false, eval e X.env) :: starEach es X.env := by rfl) (hpl : (backTo pos (starEach es X.env)).any (·.1) = false := by rfl) :
    ED X (.Call (.Name x p) (e :: es) [] pos) (dPrim (cM (freshOf (runF np n b0)) dds) fa) := by
  subst hn
  exact ed_call (fun {t} ha => C.pe hr hj hg ha hdb he hpl) (ok_cM hd runF_len) ha
theorem dd0 (F : Fm) : RelL F [] [] := rfl
theorem FnC.of {P : Program} {w : World} {K : PySem.W.Frag} {mg : Str → Option Value} {base : Heap} {a : Addr} {fd : FuncData} {qual : Str} {params : Arguments} {body : List Stmt} {scope : Scope}
    (F : FunD K x qual params body scope [] [] a fd) (hm : mg x = some (.ref a)) (h : FnOk P w K mg base CX0 k a fd ps (spS K ps.length f))
    (hb : ∀ (kV doc pm : Value) (an : Option Addr) (cdv ct : Value) (us : List Value), us.length = ps.length → bindArgs (PySem.W.fnOf x qual params body scope .none kV doc pm an cdv ct) ⟨us, []⟩ = pure (ps.zip us)) : FnC P w K mg base x k ps [] f :=
  ⟨a, fd, [], hm, h, F.kp, F.bindsN hb, .nil⟩

/-! ### names of the module -/
def dvD : He.Dv → DV
  | .bl b => .bl b
  | .int i => .int i
  | .str s => .str s
  | _ => .non
def dvOk : He.Dv → Bool
  | .non => true
  | .bl _ => true
  | .int _ => true
  | .str _ => true
  | _ => false
theorem dvD_rel {K : PySem.W.Frag} {F : Fm} : ∀ {vs : List He.Dv}, vs.all dvOk = true → RelL F (vs.map dvD) (vs.map (He.Dv.v K))
  | [], _ => rfl
  | v :: vs, h => by
    rw [List.all_cons] at h
    obtain ⟨h1, h2⟩ := Bool.and_eq_true_iff.mp h
    refine ⟨_, _, rfl, ?_, dvD_rel h2⟩
    cases v <;> first | exact rfl | cases h1
theorem ed_kint {i : Int} (h : ∃ t, X.mg x = some (.int i t)) (hg : Gl X x := by rfl) (hd : (x == ("__debug__" : Str)) = false := by decide) : ED X (.Name x pos) (dC (.int i)) := by
  obtain ⟨t, h⟩ := h
  exact ed_c (pe_glob (v := .int i) hg h ⟨t, rfl⟩ hd) fun _ => rfl
theorem ed_kstr {i : Str} (h : ∃ t, X.mg x = some (.str i t)) (hg : Gl X x := by rfl) (hd : (x == ("__debug__" : Str)) = false := by decide) : ED X (.Name x pos) (dC (.str i)) := by
  obtain ⟨t, h⟩ := h
  exact ed_c (pe_glob (v := .str i) hg h ⟨t, rfl⟩ hd) fun _ => rfl
theorem ed_ktup {vs : List He.Dv} (h : X.mg x = some (.ref (He.ga X.K x))) (ht : He.tupB X.K x vs = true) (ho : vs.all dvOk = true := by decide) (hg : Gl X x := by rfl) (hd : (x == ("__debug__" : Str)) = false := by decide) : ED X (.Name x pos) (dC (.tupx (vs.map dvD))) :=
  .of (pe_glob (v := .ref (He.ga X.K x)) hg h rfl hd) fun F S H ρ σ d S' Q hk R rr hf hq => by
    cases (show some (DV.tupx (vs.map dvD), S) = some (d, S') from hf)
    exact hq F H _ (.refl F) R ⟨_, _, rfl, by rw [hk]; exact He.tupB_ok ht _, dvD_rel ho⟩

/-! ### built-in calls in short -/
structure TB (mg : Str → Option Value) : Prop where
  len : mg "len" = none
  isinstance : mg "isinstance" = none
  range : mg "range" = none
  enumerate : mg "enumerate" = none
  list : mg "list" = none
  tuple : mg "tuple" = none
  str : mg "str" = none
  int : mg "int" = none
  max : mg "max" = none
  min : mg "min" = none
  sum : mg "sum" = none
  any : mg "any" = none
  all : mg "all" = none
  sorted : mg "sorted" = none
  set : mg "set" = none
  reversed : mg "reversed" = none
  bool : mg "bool" = none
  dict : mg "dict" = none
  zip : mg "zip" = none
  ve : mg "ValueError" = none
def frees : List He.Fa := [.free "len", .free "isinstance", .free "range", .free "enumerate", .free "list", .free "tuple", .free "str", .free "int", .free "max", .free "min", .free "sum", .free "any", .free "all", .free "sorted", .free "set", .free "reversed", .free "bool", .free "dict", .free "zip", .free "ValueError"]
theorem tb_of {K : PySem.W.Frag} {h : Heap} {mg : Str → Option Value} (X : K.In h) (G : h.Ns mainGlobals mg) (c : ∀ f ∈ frees, f.ok K = true) : TB mg := by
  have g : ∀ {x : Str}, He.Fa.free x ∈ frees → mg x = none := fun {x} hx => He.free_ok X G (c _ hx)
  have m : ∀ (i : Nat) {x : Str}, frees[i]? = some (He.Fa.free x) → mg x = none := fun i {x} e => g (List.mem_of_getElem? e)
  exact ⟨m 0 rfl, m 1 rfl, m 2 rfl, m 3 rfl, m 4 rfl, m 5 rfl, m 6 rfl, m 7 rfl, m 8 rfl, m 9 rfl, m 10 rfl, m 11 rfl, m 12 rfl, m 13 rfl, m 14 rfl, m 15 rfl, m 16 rfl, m 17 rfl, m 18 rfl, m 19 rfl⟩
section
theorem e_isi {T7 : Ty7} {e1 : Expr} {f : DE} {p1 p2 : Pos} (T : TB X.mg) (hm : X.mg (Str.ofString T7.name) = none) (hT : T7 ≠ .non) (hg : Gl X "isinstance") (hg2 : Gl X (Str.ofString T7.name)) (hb : bootBuiltins (Str.ofString T7.name) = some (.type T7.name))
    (hx : ED X e1 f) (hn : Str.ofString T7.name ≠ "__name__" := by decide) (hd : (Str.ofString T7.name == ("__debug__" : Str)) = false := by decide)
    (h1 : starEach [e1, .Name (Str.ofString T7.name) p2] X.env = (false, eval e1 X.env) :: starEach [.Name (Str.ofString T7.name) p2] X.env := by rfl)
    (hpl : (backTo pos (starEach [.Name (Str.ofString T7.name) p2] X.env)).any (·.1) = false := by rfl) :
    ED X (.Call (.Name "isinstance" p1) [e1, .Name (Str.ofString T7.name) p2] [] pos) (dIsi T7 f) :=
  ed_isi hT hx fun h => pe_callB call_isi hg T.isinstance boot_isinstance (pa_cons h (pa_cons (pe_bltn hg2 hm hb rfl hn hd) pa_nil) h1) (he := h1) (hpl := hpl)
end
end
theorem call_tupAll {X : Cx} : CallR X (.type "tuple") (rTupAll X.K) := call_tuple_of
/-! ### targets in short -/
section
variable {X : Cx} {e : Expr} {es : List Expr}
theorem gds_c {g : DG} {h : DGs} (h1 : GD X e g) (h2 : GDs X es h) (ha : (assignEach (e :: es) X.env).map (·.2) = assign e X.env :: (assignEach es X.env).map (·.2) := by rfl) : GDs X (e :: es) (gsCons g h) := gds_cons (t := rdG X.K g) (u := rdGs X.K h) h1 h2 (pgs_cons h1.pg h2.pg ha)
theorem gd_t {h : DGs} {k n : Nat} {pos : Pos} (hc : X.calm = true) (h2 : GDs X es h) (hn : (assignEach es X.env).length = n := by rfl) (hst : (assignEach es X.env).findIdx? (·.1) = none := by rfl) : GD X (.Tuple es k pos) (gTupD n h) := gd_tup h2 (pg_tup hc h2.pg hn hst)
end
/-! ### the head -/
abbrev AlX : Type := He.AlD × Bool
def obsX (n : Nat) (fa : List He.Fa) (fn : List He.DefD) (ex : PySem.W.Frag → Bool) (g : Addr → Option Obj) : AlX := (He.obsD fa fn (He.frG g (He.asD g n)), ex (He.frG g (He.asD g n)))
def hookX (n : Nat) (fa : List He.Fa) (fn : List He.DefD) (ex : PySem.W.Frag → Bool) : PySem.W.Hook where
  α := AlX
  obs := fun s => obsX n fa fn ex s.heap.get?
  val := fun _ => (He.valD fn, true)
  says := fun _ h => ∃ K : PySem.W.Frag, K.In h ∧ He.SaysD fa fn K ∧ ex K = true
  of := fun _ _ e => ⟨_, He.frG_in, congrArg Prod.fst e, congrArg Prod.snd e⟩
  keeps := fun _ _ _ ⟨K, hK, c⟩ k => ⟨K, PySem.W.Frag.In.keeps hK k, c⟩
theorem obsX_eq {n : Nat} {fa : List He.Fa} {fn : List He.DefD} {ex : PySem.W.Frag → Bool} {g : Addr → Option Obj} {s : Shared} (h : ∀ a, g a = s.heap.get? a) : obsX n fa fn ex g = (hookX n fa fn ex).obs s := by
  have e : g = s.heap.get? := funext h
  rw [e] <;> rfl
structure Facts (fa : List He.Fa) (fn : List He.DefD) (ex : PySem.W.Frag → Bool) (K : PySem.W.Frag) (mg : Str → Option Value) : Prop where
  h : ∃ h : Heap, K.In h ∧ h.Ns mainGlobals mg
  c : He.SaysD fa fn K
  e : ex K = true
section
variable {fa : List He.Fa} {fn : List He.DefD} {ex : PySem.W.Frag → Bool} {K : PySem.W.Frag} {mg : Str → Option Value}
theorem Facts.glo (Y : Facts fa fn ex K mg) (i : Nat) {x : Str} (h : fa[i]? = some (.glo x) := by rfl) : mg x = some (.ref (He.ga K x)) := by
  obtain ⟨hp, X, G⟩ := Y.h
  exact He.glo_ok X G (Y.c.fact i h)
theorem Facts.int (Y : Facts fa fn ex K mg) (i : Nat) {x : Str} {k : Int} (h : fa[i]? = some (.int x k) := by rfl) : ∃ t, mg x = some (.int k t) := by
  obtain ⟨hp, X, G⟩ := Y.h
  exact He.int_ok X G (Y.c.fact i h)
theorem Facts.str (Y : Facts fa fn ex K mg) (i : Nat) {x k : Str} (h : fa[i]? = some (.str x k) := by rfl) : ∃ t, mg x = some (.str k t) := by
  obtain ⟨hp, X, G⟩ := Y.h
  exact He.str_ok X G (Y.c.fact i h)
theorem Facts.tb0 (Y : Facts fa fn ex K mg) (hl : ∃ l, fa = l ++ frees) : TB mg := by
  obtain ⟨hp, X, G⟩ := Y.h
  obtain ⟨l, rfl⟩ := hl
  refine tb_of X G fun f hf => ?_
  obtain ⟨i, hi⟩ := List.mem_iff_getElem?.mp (List.mem_append_right l hf)
  exact Y.c.fact i hi
end
/-- the law's promise off its mathematics -/
theorem spS_law {K : PySem.W.Frag} {f : PL} {H : Hp} {a : Addr} {ns : List Int} {E : XK} (hS : SqL K H a (ns.map V.int)) (h : ∃ S', f [.lst .ext (ns.map DV.int)] [] = some (.bl true, S')) : spS K 1 f [.ref a] H (fun v _ => v = .bl true) E := by
  obtain ⟨S', h⟩ := h
  refine ⟨⟨K, H, fun _ => none, fun _ => none, []⟩, [], [.lst .ext (ns.map DV.int)], .bl true, S', rfl, ⟨Same.refl _, (fun _ _ q => nomatch q), (fun _ _ q => nomatch q), fun _ _ e => e, rfl, fun n c a h _ => by simp at h, fun n m c c' a h => by simp at h⟩, rel1 ⟨a, _, rfl, hS, ints_rel _⟩, rfl, h, fun F' H' v le R' rv => rv⟩
end Dn

namespace Dn
open PySem PySem.Spec PyProof.Rows L2

/-! ### the laws' mathematics: evaluating denotations -/
mutual
/-- a value without cells and borrowed parts -/
def plain : DV → Bool
  | .loc _ => false
  | .tup ds => plainL ds
  | .tupx ds => plainL ds
  | .lst k ds => (match k with | .bor => false | _ => true) && plainL ds
  | .dik k _ ds => (match k with | .own => true | _ => false) && plainL ds
  | .dit k _ ds => (match k with | .own => true | _ => false) && plainL ds
  | _ => true
def plainL : List DV → Bool
  | [] => true
  | d :: ds => plain d && plainL ds
end
mutual
theorem mapD_plain {b : Bool} {h : Nat → Option DV} : ∀ {d : DV}, plain d = true → mapD b h d = some d
  | .loc _, e => by cases e
  | .non, _ => rfl
  | .bl _, _ => rfl
  | .int _, _ => rfl
  | .str _, _ => rfl
  | .tup ds, e => by
    unfold mapD
    rw [mapDL_plain (d := ds) e]
  | .tupx ds, e => by
    unfold mapD
    rw [mapDL_plain (d := ds) e]
  | .lst k ds, e => by
    unfold plain at e
    obtain ⟨e1, e2⟩ := Bool.and_eq_true_iff.mp e
    unfold mapD
    rw [mapDL_plain e2]
    cases k with
    | bor => cases e1
    | own => rfl
    | ext => rfl
  | .dik k ks ds, e => by
    unfold plain at e
    obtain ⟨e1, e2⟩ := Bool.and_eq_true_iff.mp e
    unfold mapD
    rw [mapDL_plain e2]
    cases k with
    | bor => cases e1
    | own => rfl
    | ext => cases e1
  | .dit k ks ds, e => by
    unfold plain at e
    obtain ⟨e1, e2⟩ := Bool.and_eq_true_iff.mp e
    unfold mapD
    rw [mapDL_plain e2]
    cases k with
    | bor => cases e1
    | own => rfl
    | ext => cases e1
theorem mapDL_plain {b : Bool} {h : Nat → Option DV} : ∀ {d : List DV}, plainL d = true → mapDL b h d = some d
  | [], _ => rfl
  | d :: ds, e => by
    unfold plainL at e
    obtain ⟨e1, e2⟩ := Bool.and_eq_true_iff.mp e
    unfold mapDL
    rw [mapD_plain e1, mapDL_plain e2]
end
theorem cpD_plain {b : Bool} {S : Sto} {d : DV} (h : plain d = true) : cpD b S d = some d := mapD_plain h
theorem cpL_plain {b : Bool} {S : Sto} {d : List DV} (h : plainL d = true) : cpL b S d = some d := mapDL_plain h
section
variable {b : Bool} {x : Str} {i : Int} {ds : List DV} {d : DV}
@[simp] theorem plain_non : plain .non = true := (rfl)
@[simp] theorem plain_bl : plain (.bl b) = true := (rfl)
@[simp] theorem plain_int : plain (.int i) = true := (rfl)
@[simp] theorem plain_str : plain (.str x) = true := (rfl)
@[simp] theorem plain_tup : plain (.tup ds) = plainL ds := (rfl)
@[simp] theorem plain_tupx : plain (.tupx ds) = plainL ds := (rfl)
@[simp] theorem plain_own : plain (.lst .own ds) = plainL ds := by simp [plain]
@[simp] theorem plain_ext : plain (.lst .ext ds) = plainL ds := by simp [plain]
@[simp] theorem plainL_nil : plainL [] = true := (rfl)
@[simp] theorem plainL_cons : plainL (d :: ds) = (plain d && plainL ds) := (rfl)
theorem plainL_iff : ∀ {ds : List DV}, plainL ds = true ↔ ∀ d ∈ ds, plain d = true
  | [] => by simp
  | d :: ds => by simp [plainL_iff (ds := ds)]
@[simp] theorem plainL_app {a b : List DV} : plainL (a ++ b) = (plainL a && plainL b) := by
  induction a with
  | nil => simp
  | cons x r ih => simp [ih, Bool.and_assoc]
@[simp] theorem plainL_ints {ns : List Int} : plainL (ns.map DV.int) = true := plainL_iff.mpr fun d h => by
  obtain ⟨i, _, rfl⟩ := List.mem_map.mp h
  rfl
@[simp] theorem plainL_strs {ns : List Str} : plainL (ns.map DV.str) = true := plainL_iff.mpr fun d h => by
  obtain ⟨i, _, rfl⟩ := List.mem_map.mp h
  rfl
end
/-- a cell's copy -/
theorem cpD_loc {b : Bool} {S : Sto} {n : Nat} {ds : List DV} (h : S[n]? = some (.lst ds)) (hp : plainL ds = true) : cpD b S (.loc n) = some (.lst (bk b) ds) := by
  show cpN b (S.length + 1) S n = _
  unfold cpN
  simp only [h, mapDL_plain hp]
theorem pureOf_of {f : PL} {ds : List DV} {d : DV} {S' : Sto} (h : f ds [] = some (d, S')) (hp : plain d = true) : pureOf f ds = some d := by
  unfold pureOf
  rw [h]
  exact cpD_plain hp
theorem pureOf_loc {f : PL} {ds es : List DV} {n : Nat} {S' : Sto} (h : f ds [] = some (.loc n, S')) (hn : S'[n]? = some (.lst es)) (hp : plainL es = true) : pureOf f ds = some (.lst .own es) := by
  unfold pureOf
  rw [h]
  exact cpD_loc hn hp
theorem freshOf_loc {f : PL} {ds es : List DV} {n : Nat} {S' : Sto} (h : f ds [] = some (.loc n, S')) (hn : S'[n]? = some (.lst es)) (hp : plainL es = true) : freshOf f ds = some es := by
  unfold freshOf
  simp only [h, hn]
  exact cpL_plain hp

section
variable {f g h : DE} {fa : DA} {s t : DS} {p : P2} {ρ : Ev} {S : Sto} {i : Nat} {d : DV} {pl : PL} {pf : List DV → Option DV} {xs : List DV}
@[simp] theorem v_var : dVar i ρ S = (match ρ[i]? with | some (some d) => some (d, S) | _ => none) := (rfl)
@[simp] theorem v_c : dC d ρ S = some (d, S) := (rfl)
@[simp] theorem v_un {p : P1} : dUn p f ρ S = (match f ρ S with | some (x, S1) => p x S1 | none => none) := (rfl)
@[simp] theorem v_bin : dBin p f g ρ S = (match f ρ S with | some (x, S1) => (match g ρ S1 with | some (y, S2) => p x y S2 | none => none) | none => none) := (rfl)
@[simp] theorem v_and : dAnd f g ρ S = (match f ρ S with | some (.bl true, S1) => g ρ S1 | some (.bl false, S1) => some (.bl false, S1) | _ => none) := (rfl)
@[simp] theorem v_or : dOr f g ρ S = (match f ρ S with | some (.bl true, S1) => some (.bl true, S1) | some (.bl false, S1) => g ρ S1 | _ => none) := (rfl)
@[simp] theorem v_not : dNot f ρ S = (match f ρ S with | some (.bl c, S1) => some (.bl (!c), S1) | _ => none) := (rfl)
@[simp] theorem v_if : dIf h f g ρ S = (match h ρ S with | some (.bl true, S1) => f ρ S1 | some (.bl false, S1) => g ρ S1 | _ => none) := (rfl)
@[simp] theorem v_nil : aNil ρ S = some ([], S) := (rfl)
@[simp] theorem v_cons : aCons f fa ρ S = (match f ρ S with | some (x, S1) => (match fa ρ S1 with | some (xs, S2) => some (x :: xs, S2) | none => none) | none => none) := (rfl)
@[simp] theorem v_prim : dPrim pl fa ρ S = (match fa ρ S with | some (xs, S1) => pl xs S1 | none => none) := (rfl)
@[simp] theorem v_next : dNext ρ S = some (.nx ρ S) := (rfl)
@[simp] theorem v_seq : dSeq s t ρ S = (match s ρ S with | some (.nx ρ' S') => t ρ' S' | o => o) := (rfl)
@[simp] theorem v_break : dBreak ρ S = some (.bk ρ S) := (rfl)
@[simp] theorem v_cont : dCont ρ S = some (.ct ρ S) := (rfl)
@[simp] theorem v_expr : dExpr f ρ S = (match f ρ S with | some (_, S') => some (.nx ρ S') | none => none) := (rfl)
@[simp] theorem v_ret : dRet f ρ S = (match f ρ S with | some (d, S') => some (.rt d S') | none => none) := (rfl)
@[simp] theorem v_retN : dRetN ρ S = some (.rt .non S) := (rfl)
@[simp] theorem v_ifS : dIfS f s t ρ S = (match f ρ S with | some (.bl true, S1) => s ρ S1 | some (.bl false, S1) => t ρ S1 | _ => none) := (rfl)
@[simp] theorem v_gset : gSet i d ρ S = some (ρ.set i (some d), S) := (rfl)
@[simp] theorem v_set : dSet i f ρ S = (match f ρ S with | some (d, S1) => some (.nx (ρ.set i (some d)) S1) | none => none) := (rfl)
@[simp] theorem v_isi {T : Ty7} : dIsi T f ρ S = (match f ρ S with | some (x, S1) => (match tyD S1 x with | some t => some (.bl (isT t T), S1) | none => none) | none => none) := (rfl)
@[simp] theorem v_for {it : DI} {gt : DG} : dFor it gt s ρ S = (match it ρ S with | some (ds, S1) => forL gt s ds ρ S1 | none => none) := (rfl)
@[simp] theorem v_aug : dAug i p f ρ S = (match ρ[i]? with | some (some x) => (match f ρ S with | some (y, S1) => (match p x y S1 with | some (d, S2) => some (.nx (ρ.set i (some d)) S2) | none => none) | none => none) | _ => none) := (rfl)
theorem cP_plain (h : plainL xs = true) : cP pf [] xs S = (match pf xs with | some d => some (d, S) | none => none) := by
  unfold cP
  rw [List.append_nil, cpL_plain h] <;> rfl
@[simp] theorem cP_eq : cP pf [] xs S = (match cpL true S xs with | some ys => (match pf ys with | some d => some (d, S) | none => none) | none => none) := by
  unfold cP
  rw [List.append_nil] <;> rfl
@[simp] theorem cM_eq {pm : List DV → Option (List DV)} : cM pm [] xs S = (match cpL true S xs with | some ys => (match pm ys with | some es => some (.loc S.length, S ++ [.lst es]) | none => none) | none => none) := by
  unfold cM
  rw [List.append_nil] <;> rfl
@[simp] theorem v_subI {a b : Int} : pSub (.int a) (.int b) S = some (.int (a - b), S) := (rfl)
@[simp] theorem v_addI {a b : Int} : pAdd (.int a) (.int b) S = some (.int (a + b), S) := (rfl)
@[simp] theorem v_addI2 {a b : Int} : pAddI (.int a) (.int b) S = some (.int (a + b), S) := (rfl)
@[simp] theorem v_andI {a b : Int} : pAnd (.int a) (.int b) S = some (.int (Builtin.bitAnd a b), S) := (rfl)
@[simp] theorem v_orI {a b : Int} : pOr (.int a) (.int b) S = some (.int (Builtin.bitOr a b), S) := (rfl)
@[simp] theorem v_xorI {a b : Int} : pXor (.int a) (.int b) S = some (.int (Builtin.bitXor a b), S) := (rfl)
@[simp] theorem v_neg {a : Int} : pNeg (.int a) S = some (.int (-a), S) := (rfl)
theorem v_modI {a b : Int} (h : 0 < b) : pMod (.int a) (.int b) S = some (.int (a % b), S) := by
  show (match gMod a b with | some k => some (DV.int k, S) | none => none) = _
  unfold gMod
  rw [if_pos h]
theorem v_divI {a b : Int} (h : 0 < b) (h2 : b < 18446744073709551616) : pDiv (.int a) (.int b) S = some (.int (a / b), S) := by
  have h3 : b.natAbs < 2 ^ 64 := by omega
  have h4 : b.natAbs.log2 < 64 := (Nat.log2_lt (by omega)).mpr h3
  have e : gDiv a b = some (a / b) := by
    unfold gDiv
    exact if_pos ⟨h, by omega⟩
  show (match gDiv a b with | some k => some (DV.int k, S) | none => none) = _
  rw [e]
theorem v_mulI {a b : Int} (h : -18446744073709551616 < b ∧ b < 18446744073709551616) : pMul (.int a) (.int b) S = some (.int (a * b), S) := by
  show (match gMul a b with | some k => some (DV.int k, S) | none => none) = _
  unfold gMul
  rw [if_pos (.inl (.inr (by omega)))]
theorem v_mulIl {a b : Int} (h : -18446744073709551616 < a ∧ a < 18446744073709551616) : pMul (.int a) (.int b) S = some (.int (a * b), S) := by
  show (match gMul a b with | some k => some (DV.int k, S) | none => none) = _
  unfold gMul
  rw [if_pos (.inl (.inl (by omega)))]
theorem v_powI {a : Int} {b : Nat} (h2 : b ≤ 1000000) (h3 : a.natAbs < 18446744073709551616) : pPow (.int a) (.int b) S = some (.int (a ^ b), S) := by
  show (match gPow a b with | some k => some (DV.int k, S) | none => none) = _
  unfold gPow
  rw [if_pos ⟨by omega, by omega, h3⟩]
  rfl
@[simp] theorem v_addL {k l : LK} {xs ys : List DV} (hk : k ≠ .ext := by decide) (hl : l ≠ .ext := by decide) : pAdd (.lst k xs) (.lst l ys) S = (if xs.length + ys.length ≤ sizeLine then some (.lst .own (xs ++ ys), S) else none) := by
  cases k <;> cases l <;> first | rfl | exact absurd rfl hk | exact absurd rfl hl
@[simp] theorem v_addS {a b : Str} : pAdd (.str a) (.str b) S = (if a.length + b.length ≤ sizeLine then some (.str (a ++ b), S) else none) := (rfl)
@[simp] theorem v_addT {xs ys : List DV} : pAdd (.tup xs) (.tup ys) S = (if xs.length + ys.length ≤ sizeLine then some (.tup (xs ++ ys), S) else none) := (rfl)
@[simp] theorem v_pLst {xs : List DV} : pLst xs S = (if xs.length ≤ sizeLine then some (.lst .own xs, S) else none) := (rfl)
@[simp] theorem v_pLstM {xs : List DV} : pLstM xs S = (if xs.length ≤ sizeLine then some (.loc S.length, S ++ [.lst xs]) else none) := (rfl)
@[simp] theorem v_pTup {xs : List DV} : pTup xs S = (if xs.length ≤ sizeLine then some (.tup xs, S) else none) := (rfl)
@[simp] theorem size_eq : sizeLine = 16777216 := (rfl)
@[simp] theorem v_lt {a b : Int} : pLt (.int a) (.int b) S = some (.bl (decide (a < b)), S) := (rfl)
@[simp] theorem v_le {a b : Int} : pLe (.int a) (.int b) S = some (.bl (decide (a ≤ b)), S) := (rfl)
@[simp] theorem v_gt {a b : Int} : pGt (.int a) (.int b) S = some (.bl (decide (b < a)), S) := (rfl)
@[simp] theorem v_ge {a b : Int} : pGe (.int a) (.int b) S = some (.bl (decide (b ≤ a)), S) := (rfl)
@[simp] theorem v_eqI {a b : Int} : pEq false (.int a) (.int b) S = some (.bl (decide (a = b)), S) := (rfl)
@[simp] theorem v_neI {a b : Int} : pEq true (.int a) (.int b) S = some (.bl (!decide (a = b)), S) := (rfl)
@[simp] theorem v_eqS {a b : Str} : pEq false (.str a) (.str b) S = some (.bl (decide (a = b)), S) := (rfl)
@[simp] theorem v_neS {a b : Str} : pEq true (.str a) (.str b) S = some (.bl (!decide (a = b)), S) := (rfl)
@[simp] theorem v_isN : pIs false d .non S = some (.bl (isNon d), S) := (rfl)
@[simp] theorem v_isnN : pIs true d .non S = some (.bl (!isNon d), S) := (rfl)
end
@[simp] theorem isNon_int {i : Int} : isNon (.int i) = false := (rfl)
@[simp] theorem isNon_str {i : Str} : isNon (.str i) = false := (rfl)
@[simp] theorem isNon_non : isNon .non = true := (rfl)
@[simp] theorem isNon_loc {n : Nat} : isNon (.loc n) = false := (rfl)
section
variable {f : DE} {ρ : Ev} {S : Sto}
theorem iSeq_k {x : DV} {ds : List DV} {k : LK} {S1 : Sto} (h : f ρ S = some (.lst k ds, S1)) : iSeq f ρ S = some (ds, S1) := by
  unfold iSeq
  simp only [h]
@[simp] theorem iSeq_eq : iSeq f ρ S = (match f ρ S with | some (x, S1) => (match x with | .tup ds => some (ds, S1) | .tupx ds => some (ds, S1) | .lst _ ds => some (ds, S1) | .str s => some (s.cps.toList.map fun c => .str ⟨#[c]⟩, S1) | .loc n => (match S1[n]? with | some (.frz (.lst _ ds)) => some (ds, S1) | _ => none) | _ => none) | none => none) := (rfl)
end
/-! ### places -/
theorem ixN_nat {n k : Nat} (h : k < n) : ixN n (k : Int) = some k := by
  unfold ixN
  rw [if_pos (by omega), if_pos (by omega), Int.toNat_natCast]
theorem ixN_int {n : Nat} {i : Int} (h : 0 ≤ i) (h2 : i < n) : ixN n i = some i.toNat := by
  unfold ixN
  rw [if_pos h, if_pos h2]
theorem ixN_neg {n : Nat} {i : Int} (h : i < 0) (h2 : -(n : Int) ≤ i) : ixN n i = some (i + n).toNat := by
  unfold ixN
  rw [if_neg (by omega), if_pos h2]
section
variable {S : Sto} {ds : List DV} {i : Int} {d : DV}
theorem ix_seq {k : LK} (h : atD ds i = some d) : pIx (.lst k ds) (.int i) S = some (d, S) := by
  show (match atD ds i with | some d => some (d, S) | none => none) = _
  rw [h]
theorem ix_tup (h : atD ds i = some d) : pIx (.tup ds) (.int i) S = some (d, S) := by
  show (match atD ds i with | some d => some (d, S) | none => none) = _
  rw [h]
theorem ix_tupx (h : atD ds i = some d) : pIx (.tupx ds) (.int i) S = some (d, S) := by
  show (match atD ds i with | some d => some (d, S) | none => none) = _
  rw [h]
theorem ix_loc {n : Nat} (hn : S[n]? = some (.lst ds)) (h : atD ds i = some d) : pIx (.loc n) (.int i) S = some (d, S) := by
  show (match asL S (.loc n) with | some ds => (match atD ds i with | some d => some (d, S) | none => none) | none => _) = _
  unfold asL
  simp only [hn, h]
theorem ix_str {s : Str} {c : Nat} (hl : s.length ≤ sizeLine) (h : atI s.cps.toList i = some c) : pIx (.str s) (.int i) S = some (.str ⟨#[c]⟩, S) := by
  show (if s.length ≤ sizeLine then (match atI s.cps.toList i with | some c => some (DV.str ⟨#[c]⟩, S) | none => none) else none) = _
  rw [if_pos hl, h]
theorem atD_nat {k : Nat} (h : ds[k]? = some d) : atD ds (k : Int) = some d := by
  unfold atD
  rw [ixN_nat (List.getElem?_eq_some_iff.mp h).1]
  exact h
theorem atD_int (h0 : 0 ≤ i) (h : ds[i.toNat]? = some d) : atD ds i = some d := by
  have := atD_nat h
  rwa [Int.toNat_of_nonneg h0] at this
/-- a written text's sign at a place that is within -/
theorem ix_str_some {s : Str} (hl : s.length ≤ sizeLine) (h0 : 0 ≤ i) (h1 : i < s.cps.toList.length) : ∃ c, c ∈ s.cps.toList ∧ pIx (.str s) (.int i) S = some (.str ⟨#[c]⟩, S) := by
  have hlt : i.toNat < s.cps.toList.length := by omega
  refine ⟨s.cps.toList[i.toNat], List.getElem_mem hlt, ix_str hl ?_⟩
  unfold atI
  rw [ixN_int h0 h1]
  exact List.getElem?_eq_getElem hlt
end

/-! ### comprehensions and loops -/
inductive All2 {α β : Type} (P : α → β → Prop) : List α → List β → Prop where
  | nil : All2 P [] []
  | cons {a b as bs} (h : P a b) (t : All2 P as bs) : All2 P (a :: as) (b :: bs)
theorem lcL_all {g : DG} {c fe : DE} {ρ : Ev} {S : Sto} {P : DV → DV → Prop} : ∀ {ds : List DV}, (∀ d ∈ ds, ∃ ρ1 y, g d ρ S = some (ρ1, S) ∧ c ρ1 S = some (.bl true, S) ∧ fe ρ1 S = some (y, S) ∧ P d y) → ∃ ys, lcL g c fe ρ ds S = some (ys, S) ∧ All2 P ds ys
  | [], _ => ⟨[], rfl, .nil⟩
  | d :: ds, h => by
    obtain ⟨ρ1, y, h1, h2, h3, h4⟩ := h d List.mem_cons_self
    obtain ⟨ys, e, f⟩ := lcL_all (ds := ds) fun d hd => h d (List.mem_cons_of_mem _ hd)
    refine ⟨y :: ys, ?_, .cons h4 f⟩
    unfold lcL
    simp only [h1, h2, h3, e]
theorem lcL_map {g : DG} {c fe : DE} {ρ : Ev} {S : Sto} {f : DV → DV} {ds : List DV} (h : ∀ d ∈ ds, ∃ ρ1, g d ρ S = some (ρ1, S) ∧ c ρ1 S = some (.bl true, S) ∧ fe ρ1 S = some (f d, S)) : lcL g c fe ρ ds S = some (ds.map f, S) := by
  obtain ⟨ys, e, hf⟩ := lcL_all (P := fun d y => y = f d) fun d hd => by
    obtain ⟨ρ1, h1, h2, h3⟩ := h d hd
    exact ⟨ρ1, _, h1, h2, h3, rfl⟩
  rw [e]
  have : ∀ {ds ys : List DV}, All2 (fun d y => y = f d) ds ys → ys = ds.map f := fun {ds ys} h => by
    induction h with
    | nil => rfl
    | cons a _ ih => rw [a, ih] <;> rfl
  rw [this hf]
theorem lcR_of {it : DI} {g : DG} {c fe : DE} {vs : List Nat} {ρ : Ev} {S S1 S2 : Sto} {ds ys : List DV} (hi : it ρ S = some (ds, S1)) (hl : lcL g c fe (dwipe ρ vs) ds S1 = some (ys, S2)) (hz : ys.length ≤ sizeLine) : lcR it g c fe vs ρ S = some (ys, S2) := by
  unfold lcR
  simp only [hi, hl]
  rw [if_pos hz]
theorem dLc_of {it : DI} {g : DG} {c fe : DE} {vs : List Nat} {ρ : Ev} {S S1 S2 : Sto} {ds ys : List DV} (hi : it ρ S = some (ds, S1)) (hl : lcL g c fe (dwipe ρ vs) ds S1 = some (ys, S2)) (hz : ys.length ≤ sizeLine) : dLc it g c fe vs ρ S = some (.lst .own ys, S2) := by
  unfold dLc
  simp only [lcR_of hi hl hz]
theorem dLcM_of {it : DI} {g : DG} {c fe : DE} {vs : List Nat} {ρ : Ev} {S S1 S2 : Sto} {ds ys : List DV} (hi : it ρ S = some (ds, S1)) (hl : lcL g c fe (dwipe ρ vs) ds S1 = some (ys, S2)) (hz : ys.length ≤ sizeLine) : dLcM it g c fe vs ρ S = some (.loc S2.length, S2 ++ [.lst ys]) := by
  unfold dLcM
  simp only [lcR_of hi hl hz]
theorem size_ok {n : Nat} (h : n ≤ 1000000) : n ≤ sizeLine := Nat.le_trans h (by decide)
theorem mem_rgD {lo : Int} {n : Nat} {d : DV} (h : d ∈ rgD lo n) : ∃ k : Nat, k < n ∧ d = .int (lo + (k : Nat)) := by
  unfold rgD at h
  obtain ⟨k, hk, rfl⟩ := List.mem_map.mp h
  exact ⟨k, List.mem_range.mp hk, rfl⟩
theorem len_rgD {lo : Int} {n : Nat} : (rgD lo n).length = n := by unfold rgD; simp
/-- a loop by an invariant: no return, no break -/
theorem forL_inv {g : DG} {body : DS} {I : Nat → Ev → Sto → Prop} : ∀ {ds : List DV} {k : Nat} {ρ : Ev} {S : Sto}, I k ρ S →
    (∀ (i : Nat) (d : DV) ρ S, ds[i]? = some d → I (k + i) ρ S → ∃ ρ1 S1 ρ2 S2, g d ρ S = some (ρ1, S1) ∧ (body ρ1 S1 = some (.nx ρ2 S2) ∨ body ρ1 S1 = some (.ct ρ2 S2)) ∧ I (k + i + 1) ρ2 S2) →
    ∃ ρ' S', forL g body ds ρ S = some (.nx ρ' S') ∧ I (k + ds.length) ρ' S'
  | [], k, ρ, S, h, _ => ⟨ρ, S, rfl, h⟩
  | d :: ds, k, ρ, S, h, st => by
    obtain ⟨ρ1, S1, ρ2, S2, h1, h2, h3⟩ := st 0 d ρ S rfl h
    obtain ⟨ρ', S', e, i⟩ := forL_inv (k := k + 1) (ds := ds) h3 fun i d ρ S hd hi => by
      obtain ⟨a, b, c, e, x, y, z⟩ := st (i + 1) d ρ S (by simpa using hd) (by rw [show k + (i + 1) = k + 1 + i by omega]; exact hi)
      exact ⟨a, b, c, e, x, y, by rw [show k + 1 + i + 1 = k + (i + 1) + 1 by omega]; exact z⟩
    refine ⟨ρ', S', ?_, by rw [List.length_cons, show k + (ds.length + 1) = k + 1 + ds.length by omega]; exact i⟩
    unfold forL
    simp only [h1]
    rcases h2 with h2 | h2 <;> simp only [h2, e]
end Dn

namespace Dn
open PySem PySem.Spec PyProof.Rows L2
/-! ### texts of single signs -/
abbrev one1 (c : Nat) : Str := ⟨#[c]⟩
def txt (cs : List Nat) : Str := ⟨cs.toArray⟩
theorem joinL_nil : ∀ ls : List (List Nat), TL.joinL [] ls = ls.flatten
  | [] => rfl
  | [a] => by simp [TL.joinL]
  | a :: b :: r => by
    have ih := joinL_nil (b :: r)
    simp only [TL.joinL] at ih ⊢
    simp [ih]
theorem join_ones (cs : List Nat) : Txt.join "" (cs.map one1) = txt cs := by
  apply TL.ext_tl
  rw [TL.join_eq, TL.tl_join]
  show TL.joinL [] _ = cs
  rw [joinL_nil, List.map_map]
  induction cs with
  | nil => rfl
  | cons a r ih =>
    rw [List.map_cons, List.flatten_cons, ih]
    rfl
theorem strsD_map {α : Type} {f : α → Str} : ∀ {l : List α}, strsD (l.map fun a => .str (f a)) = some (l.map f)
  | [] => rfl
  | a :: l => by
    rw [List.map_cons, List.map_cons]
    unfold strsD
    rw [strsD_map]
theorem ones_sum : ∀ cs : List Nat, ((cs.map one1).map (·.length)).sum = cs.length
  | [] => rfl
  | a :: r => by
    rw [List.map_cons, List.map_cons, List.sum_cons, ones_sum r]
    show 1 + _ = _ + 1
    omega
/-- ''.join of single signs -/
theorem join_signs {f : DE} {ρ : Ev} {S : Sto} {k : LK} {cs : List Nat} (h : f ρ S = some (.lst k (cs.map fun c => .str (one1 c)), S)) (hl : cs.length ≤ 1000000) : dM1 pJoin (dC (.str "")) f ρ S = some (.str (txt cs), S) := by
  unfold dM1
  simp only [v_c, h]
  unfold pJoin itemsD
  simp only [asL, strsD_map]
  have e := ones_sum cs
  rw [if_pos, join_ones]
  rw [e]
  show cs.length + (cs.map one1).length * 0 ≤ _
  omega
def abc : Str := "abcdefghijklmnopqrstuvwxyz"
theorem abc_at : ∀ k < 26, atI abc.cps.toList (k : Nat) = some (97 + k) := by decide +kernel
theorem abc_ix {S : Sto} {i : Int} (h0 : 0 ≤ i) (h1 : i < 26) : pIx (.str "abcdefghijklmnopqrstuvwxyz") (.int i) S = some (.str (one1 (97 + i.toNat)), S) := by
  have e := abc_at i.toNat (by omega)
  rw [Int.toNat_of_nonneg h0] at e
  exact ix_str (s := abc) (by decide) e
/-- a comprehension over a range -/
theorem lcL_range {g : DG} {c fe : DE} {ρ : Ev} {S : Sto} {lo : Int} {n : Nat} {h : Nat → DV} (hh : ∀ k, k < n → ∃ ρ1, g (.int (lo + (k : Nat))) ρ S = some (ρ1, S) ∧ c ρ1 S = some (.bl true, S) ∧ fe ρ1 S = some (h k, S)) : lcL g c fe ρ (rgD lo n) S = some ((List.range n).map h, S) := by
  have gen : ∀ l : List Nat, (∀ k ∈ l, k < n) → lcL g c fe ρ (l.map fun i => .int (lo + (i : Nat))) S = some (l.map h, S) := by
    intro l
    induction l with
    | nil => intro _; rfl
    | cons a r ih =>
      intro hl
      obtain ⟨ρ1, h1, h2, h3⟩ := hh a (hl a List.mem_cons_self)
      rw [List.map_cons]
      unfold lcL
      simp only [h1, h2, h3, ih fun k hk => hl k (List.mem_cons_of_mem _ hk)]
      rfl
  exact gen _ fun k hk => List.mem_range.mp hk
theorem All2.mem {α β : Type} {P : α → β → Prop} : ∀ {as : List α} {bs : List β}, All2 P as bs → ∀ b ∈ bs, ∃ a ∈ as, P a b
  | _, _, .nil, b, h => by cases h
  | _, _, .cons h t, b, hb => by
    rcases List.mem_cons.mp hb with rfl | hb
    · exact ⟨_, List.mem_cons_self, h⟩
    · obtain ⟨a, h1, h2⟩ := All2.mem t b hb
      exact ⟨a, List.mem_cons_of_mem _ h1, h2⟩
theorem All2.len {α β : Type} {P : α → β → Prop} : ∀ {as : List α} {bs : List β}, All2 P as bs → as.length = bs.length
  | _, _, .nil => rfl
  | _, _, .cons h t => by rw [List.length_cons, List.length_cons, t.len]
/-! ### equal data -/
mutual
/-- data that == can look at -/
def good : DV → Bool
  | .non => true
  | .bl _ => true
  | .int _ => true
  | .str s => PyData.strOk s
  | .tup ds => goodL ds
  | .lst _ ds => goodL ds
  | _ => false
def goodL : List DV → Bool
  | [] => true
  | d :: ds => good d && goodL ds
end
mutual
def deep : DV → Nat
  | .tup ds => deepL ds + 1
  | .lst _ ds => deepL ds + 1
  | _ => 0
def deepL : List DV → Nat
  | [] => 0
  | d :: ds => max (deep d) (deepL ds)
end
mutual
theorem toPy_good : ∀ {d : DV}, good d = true → ∃ p, toPy d = some p ∧ p.canLay0 = true ∧ p.depth = deep d
  | .non, _ => ⟨_, rfl, rfl, rfl⟩
  | .bl b, _ => ⟨_, rfl, rfl, rfl⟩
  | .int b, _ => ⟨_, rfl, rfl, rfl⟩
  | .str b, h => ⟨_, rfl, h, rfl⟩
  | .tup ds, h => by
    obtain ⟨p, h1, h2, h3⟩ := toPyL_good (ds := ds) h
    refine ⟨.tuple p, ?_, h2, ?_⟩
    · unfold toPy
      rw [h1]
    · show PyData.depthAll p + 1 = _
      rw [h3] <;> rfl
  | .lst k ds, h => by
    obtain ⟨p, h1, h2, h3⟩ := toPyL_good (ds := ds) h
    refine ⟨.list p, ?_, h2, ?_⟩
    · unfold toPy
      rw [h1]
    · show PyData.depthAll p + 1 = _
      rw [h3] <;> rfl
  | .tupx _, h => by cases h
  | .dik _ _ _, h => by cases h
  | .dit _ _ _, h => by cases h
  | .loc _, h => by cases h
theorem toPyL_good : ∀ {ds : List DV}, goodL ds = true → ∃ p, toPyL ds = some p ∧ PyData.canLayAll0 p = true ∧ PyData.depthAll p = deepL ds
  | [], _ => ⟨[], rfl, rfl, rfl⟩
  | d :: ds, h => by
    obtain ⟨h1, h2⟩ := Bool.and_eq_true_iff.mp (show (good d && goodL ds) = true from h)
    obtain ⟨p, a1, a2, a3⟩ := toPy_good h1
    obtain ⟨q, b1, b2, b3⟩ := toPyL_good h2
    refine ⟨p :: q, ?_, ?_, ?_⟩
    · unfold toPyL
      simp only [a1, b1]
    · show (p.canLay0 && PyData.canLayAll0 q) = true
      rw [a2, b2] <;> rfl
    · show max p.depth (PyData.depthAll q) = max (deep d) (deepL ds)
      rw [a3, b3]
end
/-- what a value or a cell holds: for == -/
theorem eqDeep_same {S : Sto} {x y x' y' : DV} {p : PyData} (hx : cpD true S x = some x') (hy : cpD true S y = some y') (px : toPy x' = some p) (py : toPy y' = some p) (hl : p.canLay0 = true) (hd : p.depth ≤ 64) : eqDeep S x y = some true := by
  have s : SeqAt.shaped p = true := by
    unfold SeqAt.shaped
    rw [hl, decide_eq_true hd] <;> rfl
  unfold eqDeep
  simp only [hx, hy, px, py]
  rw [if_pos ⟨s, s⟩, SeqAt.eqv_refl p hl]
/-- two lists of the same items -/
theorem eq_lists {S : Sto} {x y : DV} {k k' : LK} {ds : List DV} (hx : cpD true S x = some (.lst k ds)) (hy : cpD true S y = some (.lst k' ds)) (hg : goodL ds = true) (hd : deepL ds ≤ 63) (hs : scD x y = none) (neg : Bool) : pEq neg x y S = some (.bl (if neg then false else true), S) := by
  obtain ⟨p, h1, h2, h3⟩ := toPyL_good hg
  have t : ∀ k, toPy (.lst k ds) = some (.list p) := fun k => by
    unfold toPy
    rw [h1]
  have e := eqDeep_same hx hy (t _) (t _) h2 (show PyData.depthAll p + 1 ≤ 64 by omega)
  unfold pEq eqD
  rw [hs]
  simp only [e]
  cases neg <;> rfl
/-! ### lists of texts, each once -/
def isStr : DV → Bool
  | .str _ => true
  | _ => false
def dedup : List DV → List DV → List DV
  | acc, [] => acc
  | acc, d :: ds => dedup (if isStr d = true ∧ inD d acc = false then acc ++ [d] else acc) ds
/-- an atom: a text or a whole number -/
def Atom (d : DV) : Prop := (∃ i, d = .int i) ∨ ∃ s, d = .str s
theorem dedup_strs : ∀ {ds acc : List DV}, acc.all isStr = true → (dedup acc ds).all isStr = true
  | [], acc, h => h
  | d :: ds, acc, h => by
    unfold dedup
    refine dedup_strs ?_
    split
    · rename_i q
      rw [List.all_append, h]
      simp [q.1]
    · exact h
theorem dedup_len : ∀ {ds acc : List DV}, (dedup acc ds).length ≤ acc.length + ds.length
  | [], acc => by simp [dedup]
  | d :: ds, acc => by
    unfold dedup
    refine Nat.le_trans dedup_len ?_
    split <;> simp <;> omega
theorem dedup_good : ∀ {ds acc : List DV}, (∀ d ∈ ds, good d = true ∧ deep d = 0) → goodL acc = true ∧ deepL acc = 0 → goodL (dedup acc ds) = true ∧ deepL (dedup acc ds) = 0
  | [], acc, _, h => h
  | d :: ds, acc, hd, h => by
    unfold dedup
    refine dedup_good (fun d h => hd d (List.mem_cons_of_mem _ h)) ?_
    split
    · have snoc : ∀ {a : List DV} {x : DV}, good x = true ∧ deep x = 0 → goodL a = true ∧ deepL a = 0 → goodL (a ++ [x]) = true ∧ deepL (a ++ [x]) = 0 := fun {a x} hx => by
        induction a with
        | nil =>
          intro _
          exact ⟨by show (good x && true) = true; rw [hx.1] <;> rfl, by show max (deep x) 0 = 0; rw [hx.2] <;> rfl⟩
        | cons y r ih =>
          intro ha
          obtain ⟨a1, a2⟩ := Bool.and_eq_true_iff.mp (show (good y && goodL r) = true from ha.1)
          have a3 : max (deep y) (deepL r) = 0 := ha.2
          obtain ⟨b1, b2⟩ := ih ⟨a2, by omega⟩
          exact ⟨by show (good y && goodL (r ++ [x])) = true; rw [a1, b1] <;> rfl, by show max (deep y) (deepL (r ++ [x])) = 0; omega⟩
      exact snoc (hd d List.mem_cons_self) h
    · exact h
theorem strs_flat {ds : List DV} (h : ds.all isStr = true) : ds.all flD = true := by
  rw [List.all_eq_true] at h ⊢
  intro d hd
  have := h d hd
  cases d <;> first | rfl | cases this
theorem strs_plain {ds : List DV} (h : ds.all isStr = true) : plainL ds = true := plainL_iff.mpr fun d hd => by
  have := List.all_eq_true.mp h d hd
  cases d <;> first | rfl | cases this
theorem set_get {n : Nat} {S : Sto} {c : Cell} (h : n < S.length) : (S.set n c)[n]? = some c := List.getElem?_set_self h
theorem get_lt {n : Nat} {S : Sto} {c : Cell} (h : S[n]? = some c) : n < S.length := (List.getElem?_eq_some_iff.mp h).1
theorem rset_get {i : Nat} {ρ : Ev} {x : Option DV} (h : i < ρ.length) : (ρ.set i x)[i]? = some x := List.getElem?_set_self h
theorem rset_ne {i j : Nat} {ρ : Ev} {x : Option DV} (h : i ≠ j) : (ρ.set i x)[j]? = ρ[j]? := List.getElem?_set_ne h
theorem loop_dedup {i j n : Nat} (hij : i ≠ j) : ∀ {ds : List DV} {ρ : Ev} {S : Sto} {acc : List DV}, (∀ d ∈ ds, Atom d) → i < ρ.length → ρ[j]? = some (some (.loc n)) → S[n]? = some (.lst acc) → acc.all isStr = true → acc.length + ds.length ≤ 1000 →
    ∃ ρ', forL (gSet i) (dIfS (dAnd (dIsi .str (dVar i)) (dBin (pIn true) (dVar i) (dVar j))) (dExpr (dMt pAppend (dVar j) (aCons (dVar i) aNil))) dNext) ds ρ S = some (.nx ρ' (S.set n (.lst (dedup acc ds)))) ∧ ρ'.length = ρ.length ∧ ∀ k, k ≠ i → ρ'[k]? = ρ[k]?
  | [], ρ, S, acc, _, hi, hj, hn, ha, hl => by
    refine ⟨ρ, ?_, rfl, fun _ _ => rfl⟩
    show some (Out.nx ρ S) = _
    have e : S.set n (.lst (dedup acc [])) = S := by
      obtain ⟨h1, h2⟩ := List.getElem?_eq_some_iff.mp hn
      show S.set n (.lst acc) = S
      rw [← h2]
      exact List.set_getElem_self h1
    rw [e]
  | d :: ds, ρ, S, acc, hd, hi, hj, hn, ha, hl => by
    have hl2 : acc.length + (ds.length + 1) ≤ 1000 := by simpa using hl
    have hi2 : i < (ρ.set i (some d)).length := by simpa using hi
    have hj2 : (ρ.set i (some d))[j]? = some (some (.loc n)) := by rw [rset_ne hij]; exact hj
    have hg : (ρ.set i (some d))[i]? = some (some d) := rset_get hi
    have keep : ∀ (ρ' : Ev), (∀ k, k ≠ i → ρ'[k]? = (ρ.set i (some d))[k]?) → ∀ k, k ≠ i → ρ'[k]? = ρ[k]? := fun ρ' h k hk => by rw [h k hk, rset_ne fun z => hk z.symm]
    unfold forL
    simp only [v_gset]
    rcases hd d List.mem_cons_self with ⟨z, rfl⟩ | ⟨s, rfl⟩
    · have e : dIfS (dAnd (dIsi .str (dVar i)) (dBin (pIn true) (dVar i) (dVar j))) (dExpr (dMt pAppend (dVar j) (aCons (dVar i) aNil))) dNext (ρ.set i (some (.int z))) S = some (.nx (ρ.set i (some (.int z))) S) := by
        simp [hg, tyD, isT]
      rw [e]
      obtain ⟨ρ', h1, h2, h3⟩ := loop_dedup hij (ds := ds) (fun d h => hd d (List.mem_cons_of_mem _ h)) hi2 hj2 hn ha (by omega)
      exact ⟨ρ', h1, h2.trans (by simp), keep ρ' h3⟩
    · have hin : pIn true (.str s) (.loc n) S = some (.bl (!inD (.str s) acc), S) := by
        have e1 : asL S (.loc n) = some acc := by
          unfold asL
          simp only [hn]
        show (match asL S (.loc n) with | some ds => _ | none => _) = _
        simp only [e1]
        rw [if_pos ⟨rfl, strs_flat ha⟩]
        rfl
      by_cases q : inD (.str s) acc = true
      · have e : dIfS (dAnd (dIsi .str (dVar i)) (dBin (pIn true) (dVar i) (dVar j))) (dExpr (dMt pAppend (dVar j) (aCons (dVar i) aNil))) dNext (ρ.set i (some (.str s))) S = some (.nx (ρ.set i (some (.str s))) S) := by
          simp [hg, hj2, tyD, isT, hin, q]
        rw [e]
        obtain ⟨ρ', h1, h2, h3⟩ := loop_dedup hij (ds := ds) (fun d h => hd d (List.mem_cons_of_mem _ h)) hi2 hj2 hn ha (by omega)
        refine ⟨ρ', ?_, h2.trans (by simp), keep ρ' h3⟩
        have e2 : dedup acc (.str s :: ds) = dedup acc ds := by
          show dedup (if isStr (.str s) = true ∧ inD (.str s) acc = false then acc ++ [.str s] else acc) ds = _
          rw [if_neg fun z => by rw [q] at z; exact nomatch z.2]
        rw [e2]
        exact h1
      · have q' : inD (.str s) acc = false := Bool.eq_false_iff.mpr q
        have e : dIfS (dAnd (dIsi .str (dVar i)) (dBin (pIn true) (dVar i) (dVar j))) (dExpr (dMt pAppend (dVar j) (aCons (dVar i) aNil))) dNext (ρ.set i (some (.str s))) S = some (.nx (ρ.set i (some (.str s))) (S.set n (.lst (acc ++ [.str s])))) := by
          have hz : acc.length < 16777216 := by omega
          simp [hg, hj2, tyD, isT, hin, q', dMt, asL, hn, pAppend, hz]
        rw [e]
        obtain ⟨ρ', h1, h2, h3⟩ := loop_dedup hij (ds := ds) (acc := acc ++ [.str s]) (fun d h => hd d (List.mem_cons_of_mem _ h)) hi2 hj2 (set_get (get_lt hn)) (by rw [List.all_append, ha] <;> rfl) (by simp; omega)
        refine ⟨ρ', ?_, h2.trans (by simp), keep ρ' h3⟩
        have e2 : dedup acc (.str s :: ds) = dedup (acc ++ [.str s]) ds := by
          show dedup (if isStr (.str s) = true ∧ inD (.str s) acc = false then acc ++ [.str s] else acc) ds = _
          rw [if_pos ⟨rfl, q'⟩]
        rw [e2]
        rw [List.set_set] at h1
        exact h1
end Dn

/-! enumerate over a tuple -/
namespace Dn
open PySem PySem.Spec PyProof.Rows L2
set_option maxHeartbeats 1000000 in
theorem meets_enum1 {v : Value} {o : Obj} {H : Heap → Prop} (B : Begins v o H) :
    Meets (Builtin.«enumerate.__new__» ⟨[.type "enumerate", v], []⟩) (fun _ R s => H s.heap ∧
      R (.ok (.ret (.ref (s.heap.push o).objs.size))) { s with heap := (s.heap.push o).push { cls := .type "enumerate", data := .fields #[.none, .bool false, .ref s.heap.objs.size, rawInt 0, .none, .none] } }) :=
  .of_wp fun prog w A R s h => by
    obtain ⟨hp, g, d, tk, os⟩ := s; obtain ⟨h1, h⟩ := h
    have hsub := sub_enumerate
    have q1 : ∀ {A' : Around} {E : Value → Shared → Prop} {Q : Value → Shared → Prop}, Q (.ref hp.objs.size) ⟨hp.push o, g, d, tk, os⟩ → wpAny (model prog w) A' (pyIter v) Q E ⟨hp, g, d, tk, os⟩ :=
      fun q => B.iter prog w _ _ ⟨hp, g, d, tk, os⟩ _ h1 q
    wp_walk using q1
    refine wpAny_stack_any fun st => wpAny_pure ?_
    split
    · rename_i c _ _ _ _ _
      cases (c == Value.type "enumerate")
      · wp_walk using q1
        exact ⟨_, rfl, h⟩
      · wp_walk using q1
        exact ⟨_, rfl, h⟩
    · wp_walk using q1
      exact ⟨_, rfl, h⟩
section
variable {prog : Program} {w : World} {A : Around} {E : Value → Shared → Prop} {s : Shared}
theorem call_enum1 {v : Value} {o : Obj} {H : Heap → Prop} {Q : Value → Shared → Prop} (B : Begins v o H) (h1 : H s.heap)
    (h : ∀ h', IsEnum h' (s.heap.objs.size + 1) s.heap.objs.size 0 .none → h'.get? s.heap.objs.size = some o → h'.objs.size = s.heap.objs.size + 2 →
      (∀ b o, s.heap.get? b = some o → h'.get? b = some o) → Q (.ref (s.heap.objs.size + 1)) { s with heap := h' }) :
    wpAny (model prog w) A (call (.type "enumerate") [v]) Q E s := by
  refine callType_new F.called_enumerate (by decide) (F.typeCall_enumerate_1 _) (F.newCall_enumerate_1 _) (fun obj => F.args_object_init_2 obj _) F.entry_enumerate_new
    (meets_enum1 B) ⟨h1, ?_⟩
  have hz : (s.heap.push o).objs.size = s.heap.objs.size + 1 := Heap.size_push ..
  show _ ∧ _
  rw [hz]
  have he : IsEnum ((s.heap.push o).push { cls := .type "enumerate", data := .fields #[.none, .bool false, .ref s.heap.objs.size, rawInt 0, .none, .none] }) (s.heap.objs.size + 1) s.heap.objs.size 0 .none := by
    have := Heap.get?_push_size (s.heap.push o) (o := { cls := .type "enumerate", data := .fields #[.none, .bool false, .ref s.heap.objs.size, rawInt 0, .none, .none] }) rfl
    rw [hz] at this; exact this
  refine ⟨⟨_, he, rfl⟩, h _ he (Heap.get?_push_of_some _ (Heap.get?_push_size _ B.free)) (by rw [Heap.size_push, hz]) fun b o x => Heap.get?_push_of_some _ (Heap.get?_push_of_some _ x)⟩
end
/-- the tuple at a, each item in a new pair -/
def Itet (K : PySem.W.Frag) (a : Addr) : It :=
  ⟨fun i H => ∃ (xs : List V) (x : V), SqT K H a xs ∧ xs[i]? = some x, fun i H v H' => ∃ T x, v = .ref T ∧ H T = none ∧ H' = upd H T (.tup [.int (i : Nat), x]) ∧ ∀ xs, SqT K H a xs → xs[i]? = some x, fun i H => ∃ xs : List V, SqT K H a xs ∧ xs.length ≤ i⟩
theorem turn_enumT {P : Program} {w : World} {K : PySem.W.Frag} {elts : List Expr} {kk : Nat} {tpos : Pos} (a e it : Addr) :
    Turn P w K (.Tuple elts kk tpos) (Itet K a) [e, it] e (fun i h => (∃ old, IsEnum h e it ((i : Nat) : Int) old) ∧ h.IsTupleIter it a i ∧ e ≠ it) where
  mem := by simp
  obj := fun i h st b hb => by
    obtain ⟨⟨old, he⟩, ⟨o, ho, hc, hd⟩, _⟩ := st
    have e' : b = e ∨ b = it := by simpa using hb
    rcases e' with z | z
    · rw [z]; exact ⟨_, he, fun v q => nomatch q⟩
    · rw [z]; exact ⟨o, ho, fun v q => by rw [hd] at q; cases q⟩
  keep := fun i h h' st k => let ⟨⟨old, he⟩, hi, hne⟩ := st; ⟨⟨old, k e (by simp) _ he⟩, hi.at fun o q => k it (by simp) o q, hne⟩
  item := by
    intro X hP hw hK hc i pins s σ H E I hf st hg
    subst hP hw hK
    obtain ⟨⟨old, he⟩, hit, hne⟩ := st
    obtain ⟨xs, x, hq, hx⟩ := hg
    obtain ⟨its, rv, p, hz⟩ := I.tuple hq
    obtain ⟨u, hu, ru⟩ := rv.get hx
    have hel : e < s.heap.objs.size := Heap.lt_size he
    have hil : it < s.heap.objs.size := by obtain ⟨_, q, _⟩ := hit; exact Heap.lt_size q
    have pt : s.heap.IsTuple a its.toArray := p
    have nai : a ≠ it := fun q => by
      obtain ⟨o1, h1, c1, _⟩ := pt
      obtain ⟨o2, h2, c2, _⟩ := id hit
      rw [q, h2] at h1
      cases h1
      rw [c2] at c1
      exact absurd c1 (by simp)
    have nae : a ≠ e := fun q => by
      obtain ⟨o1, h1, c1, _⟩ := pt
      rw [q, he] at h1
      cases h1
      exact absurd c1 (by simp)
    have hlt : i < its.toArray.size := by
      have := (List.getElem?_eq_some_iff.mp hu).1
      simpa using this
    refine wpAny_pyNext_enum_itemD (Draws.tuple (A := X.A.in1) (I.ok.hd hc) it a nai its.toArray) he ⟨hit, pt⟩ hlt hne (by simp [hne]; exact fun q => nae q.symm) fun x' h' tk hPx ho hst' hT hsz hk => ?_
    have ex' : x' = u := by
      have h2 : its.toArray[i]? = some x' := hPx
      have h3 : its.toArray[i]? = some u := by simpa using hu
      rw [h3] at h2
      exact (Option.some.inj h2).symm
    subst ex'
    refine ⟨_, rfl, wpAny_letOwnedTupleGo_enum (s := { s with heap := h', toks := tk + 1 }) ho fun h'' he' sb => ?_⟩
    have hT2 : h''.get? s.heap.objs.size = some { cls := .type "tuple", data := .seq #[.int i tk, x'] } := (sb.2 _ (Nat.ne_of_gt hel)).trans hT
    have new : ObjOk X.prog X.w (upd H s.heap.objs.size (.tup [.int (i : Nat), x])) h'' s.heap.objs.size (.tup [.int (i : Nat), x]) :=
      ⟨by show 2 ≤ sizeLine; decide, [.int i tk, x'], .cons ⟨_, rfl⟩ (.cons ru .nil), ⟨_, hT2, rfl, _, rfl⟩⟩
    have I1 : Inv X pins σ (upd H s.heap.objs.size (.tup [.int (i : Nat), x])) { s with heap := h'', toks := tk + 1 } :=
      I.turnedNew (ch := [e, it]) (fun b ob hb q => (sb.2 b (fun z => hb (by simp [z]))).trans (hk b ob (fun z => hb (by simp [z])) (fun z => hb (by simp [z])) q)) hf (Nat.le_refl _) new
    refine ⟨.ref s.heap.objs.size, _, I1, rfl, ⟨_, x, rfl, I.hok.fresh (Nat.le_refl _), rfl, fun ys hy => by rw [I.tuple_inj hy hq]; exact hx⟩, ⟨⟨x', ?_⟩, hst'.1.at fun o q => (sb.2 it (Ne.symm hne)).trans q, hne⟩, fun b hb => ?_⟩
    · have e1 : ((i + 1 : Nat) : Int) = (i : Int) + 1 := by omega
      rw [e1]; exact he'
    · have hb' : b < s.heap.objs.size := by
        have e' : b = e ∨ b = it := by simpa using hb
        rcases e' with z | z
        · rw [z]; exact hel
        · rw [z]; exact hil
      rw [upd_ne (Nat.ne_of_lt hb')]
      exact (hf b hb).1
  done := by
    intro X hP hw hK hc i pins s σ H E I hf st hg
    subst hP hw hK
    obtain ⟨⟨old, he⟩, hit, hne⟩ := st
    obtain ⟨xs, hq, hx⟩ := hg
    obtain ⟨its, rv, p, hz⟩ := I.tuple hq
    obtain ⟨f0, f1, f2, f3, f4, f5⟩ := hf it (by simp)
    have hl := rv.length
    have pt : s.heap.IsTuple a its.toArray := p
    have hT : s.TypeIs (.ref e) "enumerate" := ⟨_, he, rfl⟩
    unfold pyNext
    refine wpAny_bind (wpAny_attempt (wpAny_callSpecial?_slot (name := Str.ofString "__next__") hT F.slot_enumerate_next
      (wpAny_call_entry F.slot_enumerate_next hT F.entry_enumerate_next ?_ (F.args_enumerate_next_1 _))))
    show wpAny _ _ (PySem.field (.ref e) 2 >>= _) _ _ _
    refine wpAny_bind (wpAny_field he rfl (x := .ref it) rfl ?_)
    refine wpAny_bind (wpAny_nextOf_tuple_end (I.ok.hd hc) hit pt (by simp; omega) fun h' x he' hx' => ?_)
    obtain ⟨o, ho, hcl⟩ := hx'
    refine wpAny_bind (wpAny_isInstance (T := "StopIteration") (b := true) ⟨o, ho, hcl⟩ isSubtype_stop ?_)
    exact wpAny_pure ⟨rfl, I.turned (t' := s.toks) (fun b o hb q => he' b o hb q) f0 f1 f3 f4 f5⟩
  self := fun A i s Q E st h => let ⟨⟨_, he⟩, _⟩ := st; wpAny_pyIter_enum he h
def iEnT (K : PySem.W.Frag) (ta : TA) : TI := fun σ H R => ta σ H fun vs H1 => ∃ a xs, vs = [.ref a] ∧ SqT K H1 a xs ∧ R (Itet K a) H1
theorem pi_enumT {X : Cx} {e : Expr} {ta : TA} {p pos tpos : Pos} {elts : List Expr} {kk : Nat} (hg : Gl X "enumerate") (hm : X.mg "enumerate" = none) (ha : PA X [e] ta) (hs : starEach [e] X.env = [(false, eval e X.env)] := by rfl) :
    PI X (.Tuple elts kk tpos) (.Call (.Name "enumerate" p) [e] [] pos) (iEnT X.K ta) := by
  refine ⟨fun pins s σ H R I h => ?_⟩
  refine Call_ (ld_blt I hg hm boot_enumerate (PyProof.Rows.callWith_type1 (thn (ha.run pos pins s σ H _ I h) fun us s1 ⟨vs, H1, I1, r1, q1⟩ => ?_) hs rfl))
  obtain ⟨a, xs, ex, hq, q⟩ := q1
  subst ex
  cases r1 with
  | cons r rr =>
    cases rr
    cases r
    obtain ⟨its, rv, p', hz⟩ := I1.tuple hq
    refine call_enum1 (begins_tuple a its.toArray) (show s1.heap.IsTuple a its.toArray from p') fun h' he hit hsz hk => wpAny_pyIter_enum he ?_
    have I2 : Inv X pins σ H1 { s1 with heap := h' } := I1.kept (t' := s1.toks) hk
    refine ⟨s1.heap.objs.size + 1, [s1.heap.objs.size + 1, s1.heap.objs.size], _, _, H1, rfl, I2, turn_enumT a (s1.heap.objs.size + 1) s1.heap.objs.size, ⟨⟨.none, he⟩, ⟨_, hit, rfl, rfl⟩, Nat.succ_ne_self _⟩, fun b hb => ?_, q⟩
    have e' : b = s1.heap.objs.size + 1 ∨ b = s1.heap.objs.size := by simpa using hb
    have hle : s1.heap.objs.size ≤ b := by
      rcases e' with z | z
      · rw [z]; exact Nat.le_add_right _ _
      · rw [z]; exact Nat.le_refl _
    exact I1.fpOk hle (I1.hok.fresh hle)
theorem walks_enumT {F : Fm} {a : Addr} {ds : List DV} (h : ∀ F' S H, Wk F F' → Rep F' S H → ∃ xs, SqT F.K H a xs ∧ RelL F' ds xs) : Walks (Itet F.K a) F (enD 0 ds) := fun i F' S H w _ R => by
  obtain ⟨xs, hs, rl⟩ := h F' S H w R
  refine ⟨fun e => ⟨xs, hs, by rw [e, enD_len, rl.length]; exact Nat.le_refl _⟩, fun d hd => ?_⟩
  rw [enD_get] at hd
  cases hd0 : ds[i]? with
  | none =>
    rw [hd0] at hd
    cases hd
  | some d0 =>
    rw [hd0] at hd
    cases hd
    obtain ⟨x, hx, rx⟩ := rl.get hd0
    refine ⟨⟨xs, x, hs, hx⟩, fun y H' yl => ?_⟩
    obtain ⟨T, x', rfl, hT, rfl, hy⟩ := yl
    have e := (hy xs hs).symm.trans hx
    cases e
    obtain ⟨R', le⟩ := R.add (o := .tup [.int (i : Nat), x]) hT
    exact ⟨_, le, R', T, _, rfl, upd_same, .cons (by rw [Nat.zero_add]; exact rfl) (.cons (rx.le le) rfl)⟩
def iEnum2 (f : DA) : DI := fun ρ S => match f ρ S with
  | some ([.tup ds], S1) => some (enD 0 ds, S1)
  | some ([x], S1) => (match valL S1 x with
    | some ds => some (enD 0 ds, S1)
    | none => none)
  | _ => none
section
variable {X : Cx} {e : Expr} {fa : DA}
theorem id_enum2 {tg : Expr} {es : List Expr} (ha : AD X es fa) (h : ∀ {t : TA}, PA X es t → PI X tg e (L2.iEnum X.K t)) (h2 : ∀ {t : TA}, PA X es t → PI X tg e (iEnT X.K t)) : ID X tg e (iEnum2 fa) :=
  .of (PI.or (h ha.pa) (h2 ha.pa)) fun F S H ρ σ ds S' Q hk R rr hf hq => by
    unfold iEnum2 at hf
    split at hf
    · rename_i es S1 h1
      cases hf
      refine .inr (rdA.go hk R rr h1 fun F1 H1 vs le hk1 R1 r1 rl => ?_)
      obtain ⟨v, rfl, rv⟩ := one rl
      obtain ⟨a, xs, rfl, hs, rl⟩ := rv
      rw [← hk1]
      exact ⟨a, xs, rfl, SqT.of (R1.g _ _ hs), hq _ F1 H1 le R1 (walks_enumT fun F' S' H' w R' => ⟨xs, SqT.of (R'.g _ _ (w.g _ _ hs)), RelL.wk w _ _ rl⟩)⟩
    · rename_i x S1 h1
      split at hf
      · rename_i es hv
        cases hf
        refine .inl (rdA.go hk R rr h1 fun F1 H1 vs le hk1 R1 r1 rl => ?_)
        obtain ⟨v, rfl, rv⟩ := one rl
        obtain ⟨k, rv⟩ := valL_ok R1 rv hv
        obtain ⟨a, xs, rfl, hs, _⟩ := rv.lstSq R1
        rw [← hk1]
        refine ⟨a, xs, rfl, hs, hq _ F1 H1 le R1 (walks_enum fun F' S' H' w R' => ?_)⟩
        obtain ⟨a', xs', e, hs', rl'⟩ := (Rel.wk w _ _ rv).lstSq R'
        cases e
        rw [w.k] at hs'
        exact ⟨xs', hs', rl'⟩
      · cases hf
    · cases hf
end

theorem chain_go {K : PySem.W.Frag} {r r' : R2} {p q : P2} {f g h : DE} (hp : Ok2 K p r) (hp' : Ok2 K q r') {F : Fm} {S S' : Sto} {H : Hp} {ρ : Ev} {σ : L2.St} {d : DV} {Q : VK} (hk : F.K = K) (R : Rep F S H) (rr : RelE F ρ σ) (hf : dChain p q f g h ρ S = some (d, S')) (hq : PostE F S' d Q) :
    tChain r r' (rdE K f) (rdE K g) (rdE K h) σ H Q := by
  unfold dChain at hf
  split at hf
  · rename_i x S1 h1
    split at hf
    · rename_i y S2 h2
      refine rdE.go hk R rr h1 fun F1 H1 v le hk1 R1 r1 rx => rdE.go hk1 R1 r1 h2 fun F2 H2 u le2 hk2 R2 r2 ry => ?_
      split at hf
      · rename_i S3 h3
        refine hp F2 S2 H2 x y v u _ _ _ hk2 R2 (rx.le le2) ry h3 fun F3 H3 z le3 R3 rz => ⟨true, rz, ?_⟩
        rw [if_pos rfl]
        split at hf
        · rename_i z S4 h4
          exact rdE.go (le3.k.trans hk2) R3 (r2.le le3) h4 fun F4 H4 w le4 hk4 R4 r4 rw_ => hp' F4 S4 H4 y z u w d S' Q hk4 R4 (ry.le (le3.trans le4)) rw_ hf (hq.le (((le.trans le2).trans le3).trans le4))
        · cases hf
      · rename_i S3 h3
        cases hf
        refine hp F2 S2 H2 x y v u _ _ _ hk2 R2 (rx.le le2) ry h3 fun F3 H3 z le3 R3 rz => ⟨false, rz, ?_⟩
        rw [if_neg Bool.false_ne_true]
        exact hq F3 H3 _ ((le.trans le2).trans le3) R3 rfl
      · cases hf
    · cases hf
  · cases hf
theorem td_chain {X : Cx} {a b c : Expr} {pos : Pos} {op op' : CmpOp} {r r' : R2} {p q : P2} {f g h : DE} (ho : OpR X (compareOp op) r) (hp : Ok2 X.K p r) (ho' : OpR X (compareOp op') r') (hp' : Ok2 X.K q r') (ha : ED X a f) (hb : ED X b g) (hc : ED X c h)
    (hm : lastMarks [op, op'] [b, c] = false := by with_unfolding_all rfl) : TD X (.Compare a [op, op'] [b, c] pos) (dChain p q f g h) :=
  .of (pt_chain ho ho' ha.pe hb.pe hc.pe hm) fun F S H ρ σ d S' Q hk R rr hf hq => chain_go hp hp' hk R rr hf fun F' H' v le R' rv => by
    have e : v = .bl d := rv
    exact ⟨d, e, hq F' H' le R'⟩
theorem ed_chain2 {X : Cx} {a b c : Expr} {pos : Pos} {op op' : CmpOp} {r r' : R2} {p q : P2} {f g h : DE} (ho : OpR X (compareOp op) r) (hp : Ok2 X.K p r) (ho' : OpR X (compareOp op') r') (hp' : Ok2 X.K q r') (ha : ED X a f) (hb : ED X b g) (hc : ED X c h)
    (hm : lastMarks [op, op'] [b, c] = false := by with_unfolding_all rfl) : ED X (.Compare a [op, op'] [b, c] pos) (dChain p q f g h) :=
  .of (pe_chain ho ho' ha.pe hb.pe hc.pe hm) fun F S H ρ σ d S' Q hk R rr hf hq => chain_go hp hp' hk R rr hf hq

/-! ### written texts are alike just where they are written alike -/
theorem charNat_inj {x y : Char} (h : x.toNat = y.toNat) : x = y := by
  apply Char.ext
  exact UInt32.toNat_inj.mp h
theorem mapNat_inj : ∀ {l m : List Char}, l.map Char.toNat = m.map Char.toNat → l = m
  | [], [], _ => rfl
  | [], _ :: _, h => by cases h
  | _ :: _, [], h => by cases h
  | x :: l, y :: m, h => by
    rw [List.map_cons, List.map_cons] at h
    injection h with h1 h2
    rw [charNat_inj h1, mapNat_inj h2]
@[simp] theorem ofString_inj {a b : String} : (Str.ofString a = Str.ofString b) = (a = b) := by
  apply propext
  constructor
  · intro h
    rw [Str.ofString_eq_toList, Str.ofString_eq_toList] at h
    have h2 : a.toList.map Char.toNat = b.toList.map Char.toNat := by
      have := congrArg (fun s : Str => s.cps.toList) h
      simpa using this
    exact String.toList_inj.mp (mapNat_inj h2)
  · intro h
    rw [h]
end Dn

namespace Dn
open PySem PySem.Spec PyProof.Rows L2
section
variable {f g : DE} {lo hi : DO} {ρ : Ev} {S : Sto} {p : DV → Option Int → Option Int → Sto → Option (DV × Sto)} {fa : DA} {pm : PM}
@[simp] theorem v_sl : dSl p f lo hi ρ S = (match f ρ S with | some (x, S1) => (match lo ρ S1 with | some (l, S2) => (match hi ρ S2 with | some (u, S3) => p x l u S3 | none => none) | none => none) | none => none) := (rfl)
@[simp] theorem dwipe_nil : dwipe ρ [] = ρ := (rfl)
@[simp] theorem dwipe_cons {v : Nat} {vs : List Nat} : dwipe ρ (v :: vs) = (dwipe ρ vs).set v none := (rfl)
@[simp] theorem v_oN : oNone ρ S = some (none, S) := (rfl)
@[simp] theorem v_oS : oSome f ρ S = (match f ρ S with | some (.int i, S1) => some (some i, S1) | _ => none) := (rfl)
@[simp] theorem v_slS {s : Str} {l u : Option Int} : pSl (.str s) l u S = (if s.length ≤ sizeLine then some (.str (cutS s l u), S) else none) := (rfl)
@[simp] theorem v_slL {k : LK} {xs : List DV} {l u : Option Int} : pSl (.lst k xs) l u S = some (.lst .own (cutD xs l u), S) := (rfl)
@[simp] theorem v_slT {xs : List DV} {l u : Option Int} : pSl (.tup xs) l u S = some (.tup (cutD xs l u), S) := (rfl)
@[simp] theorem v_mt : dMt pm f fa ρ S = (match f ρ S with | some (x, S1) => (match asL S1 x with | some _ => (match fa ρ S1 with | some (xs, S2) => pm x xs S2 | none => none) | none => none) | none => none) := (rfl)
theorem app_loc {n : Nat} {y : DV} {xs : List DV} (h : S[n]? = some (.lst xs)) (hz : xs.length < 16777216) : pAppend (.loc n) [y] S = some (.non, S.set n (.lst (xs ++ [y]))) := by
  unfold pAppend
  simp only [h]
  exact if_pos hz
theorem asL_loc {n : Nat} {xs : List DV} (h : S[n]? = some (.lst xs)) : asL S (.loc n) = some xs := by
  unfold asL
  simp only [h]
@[simp] theorem asL_lst {k : LK} {xs : List DV} : asL S (.lst k xs) = some xs := (rfl)
@[simp] theorem v_lenL {k : LK} {xs : List DV} : pLen [.lst k xs] S = some (.int xs.length, S) := (rfl)
@[simp] theorem v_lenT {xs : List DV} : pLen [.tup xs] S = some (.int xs.length, S) := (rfl)
@[simp] theorem v_lenS {x : Str} : pLen [.str x] S = (if x.length ≤ sizeLine then some (.int x.length, S) else none) := (rfl)
@[simp] theorem v_tupL {k : LK} {xs : List DV} : pTuple [.lst k xs] S = some (.tup xs, S) := (rfl)
@[simp] theorem v_tupT {xs : List DV} : pTuple [.tup xs] S = some (.tup xs, S) := (rfl)
@[simp] theorem v_listT {xs : List DV} : pList [.tup xs] S = some (.lst .own xs, S) := (rfl)
@[simp] theorem v_listL {k : LK} {xs : List DV} : pList [.lst k xs] S = some (.lst .own xs, S) := (rfl)
@[simp] theorem v_intB {b : Bool} : pInt [.bl b] S = some (.int (if b then 1 else 0), S) := (rfl)
@[simp] theorem v_intI {b : Int} : pInt [.int b] S = some (.int b, S) := (rfl)
@[simp] theorem v_chain {p q : P2} {f g h : DE} : dChain p q f g h ρ S = (match f ρ S with
  | some (x, S1) => (match g ρ S1 with
    | some (y, S2) => (match p x y S2 with
      | some (.bl true, S3) => (match h ρ S3 with
        | some (z, S4) => q y z S4
        | none => none)
      | some (.bl false, S3) => some (.bl false, S3)
      | _ => none)
    | none => none)
  | none => none) := (rfl)
@[simp] theorem v_addM {k l : LK} {xs ys : List DV} (hk : k ≠ .ext := by decide) (hl : l ≠ .ext := by decide) : pAddM (.lst k xs) (.lst l ys) S = (if xs.length + ys.length ≤ sizeLine then some (.loc S.length, S ++ [.lst (xs ++ ys)]) else none) := by
  cases k <;> cases l <;> first | rfl | exact absurd rfl hk | exact absurd rfl hl
theorem v_addMl {n : Nat} {l : LK} {xs ys : List DV} (h : S[n]? = some (.lst xs)) (hl : l ≠ .ext := by decide) : pAddM (.loc n) (.lst l ys) S = (if xs.length + ys.length ≤ sizeLine then some (.loc S.length, S ++ [.lst (xs ++ ys)]) else none) := by
  unfold pAddM asT
  simp only [h]
  cases l <;> first | rfl | exact absurd rfl hl
theorem v_addl {n : Nat} {l : LK} {xs ys : List DV} (h : S[n]? = some (.lst xs)) (hl : l ≠ .ext := by decide) : pAdd (.loc n) (.lst l ys) S = (if xs.length + ys.length ≤ sizeLine then some (.lst .own (xs ++ ys), S) else none) := by
  unfold pAdd asT
  simp only [h]
  cases l <;> first | rfl | exact absurd rfl hl
@[simp] theorem ty_int {i : Int} : tyD S (.int i) = some .int := (rfl)
@[simp] theorem ty_str {i : Str} : tyD S (.str i) = some .str := (rfl)
@[simp] theorem ty_bl {i : Bool} : tyD S (.bl i) = some .bool := (rfl)
@[simp] theorem ty_non : tyD S .non = some .non := (rfl)
@[simp] theorem ty_tup {i : List DV} : tyD S (.tup i) = some .tuple := (rfl)
@[simp] theorem ty_own {i : List DV} : tyD S (.lst .own i) = some .list := (rfl)
@[simp] theorem ty_bor {i : List DV} : tyD S (.lst .bor i) = some .list := (rfl)
theorem ty_loc {n : Nat} {xs : List DV} (h : S[n]? = some (.lst xs)) : tyD S (.loc n) = some .list := by
  unfold tyD
  simp only [h]
end
theorem cutS_len (z : Str) (l u : Option Int) : (cutS z l u).length ≤ z.length := by
  show ((List.take _ (List.drop _ z.cps.toList)).toArray).size ≤ z.cps.size
  simp
  omega
theorem cutD_mem {xs : List DV} {l u : Option Int} {d : DV} (h : d ∈ cutD xs l u) : d ∈ xs := by
  unfold cutD at h
  exact List.mem_of_mem_drop (List.mem_of_mem_take h)
theorem cutD_len {xs : List DV} {l u : Option Int} : (cutD xs l u).length ≤ xs.length := by
  unfold cutD
  simp
  omega
theorem txt_len (cs : List Nat) : (txt cs).length = cs.length := by
  show cs.toArray.size = _
  simp
theorem app_len (a b : Str) : (a ++ b).length = a.length + b.length := Str.length_append a b
/-- where each gives a value: a comprehension over any list, the store as it was -/
theorem lcL_ex {g : DG} {c fe : DE} {ρ : Ev} {S : Sto} {P : DV → DV → Prop} {ds : List DV} (h : ∀ d ∈ ds, ∃ ρ1 y, g d ρ S = some (ρ1, S) ∧ c ρ1 S = some (.bl true, S) ∧ fe ρ1 S = some (y, S) ∧ P d y) : ∃ ys, lcL g c fe ρ ds S = some (ys, S) ∧ All2 P ds ys := lcL_all h
theorem All2.get {α β : Type} {P : α → β → Prop} : ∀ {as : List α} {bs : List β} {i : Nat} {a : α}, All2 P as bs → as[i]? = some a → ∃ b, bs[i]? = some b ∧ P a b
  | _, _, i, a, .nil, h => by simp at h
  | _, _, 0, a, .cons p t, h => by
    cases h
    exact ⟨_, rfl, p⟩
  | _, _, i + 1, a, .cons p t, h => by
    rw [List.getElem?_cons_succ] at h
    obtain ⟨b, h1, h2⟩ := t.get h
    exact ⟨b, by rw [List.getElem?_cons_succ]; exact h1, h2⟩
theorem pureOf_ex {f : PL} {ds : List DV} {d : DV} (h : ∃ S', f ds [] = some (d, S')) (hp : plain d = true) : pureOf f ds = some d := by
  obtain ⟨S', h⟩ := h
  exact pureOf_of h hp
theorem cpL_loc {b : Bool} {S : Sto} {n : Nat} {xs : List DV} {d : DV} (h : S[n]? = some (.lst xs)) (hp : plainL xs = true) (hd : plain d = true) : cpL b S [.loc n, d] = some [.lst (bk b) xs, d] := by
  have h1 : mapD b (cpN b (S.length + 1) S) (.loc n) = some (.lst (bk b) xs) := cpD_loc h hp
  have h2 : mapD b (cpN b (S.length + 1) S) d = some d := mapD_plain hd
  unfold cpL mapDL mapDL mapDL
  simp only [h1, h2]
end Dn

/-! objects -/
namespace Dn
open PySem PySem.Spec PyProof.Rows L2
/-- the classes' attributes that instances may have -/
abbrev ATab := List (Str × Str)
def insD (S : Sto) : DV → Option (Str × List (Str × DV))
  | .loc n => match S[n]? with
    | some (.ins C fs) => some (C, fs)
    | _ => none
  | _ => none
theorem insD_ok {F : Fm} {S : Sto} {H : Hp} {d : DV} {v : V} {C : Str} {fs : List (Str × DV)} (R : Rep F S H) (r : Rel F d v) (h : insD S d = some (C, fs)) : ∃ n a dx xs, d = .loc n ∧ S[n]? = some (.ins C fs) ∧ F.lm[n]? = some a ∧ v = .ref a ∧ H a = some (.ins (He.ga F.K C) dx ((fs.map (·.1)).zip xs)) ∧ RelL F (fs.map (·.2)) xs := by
  unfold insD at h
  split at h
  · rename_i n
    split at h
    · rename_i C' fs' hc
      cases h
      obtain ⟨a, ha, rfl⟩ := r
      obtain ⟨⟨dx, xs, e, rl⟩, _⟩ := R.cell n _ a hc ha
      exact ⟨n, a, dx, xs, rfl, hc, ha, rfl, e, rl⟩
    · cases h
  · cases h
theorem lookup_ok {F : Fm} {f : Str} : ∀ {fs : List (Str × DV)} {xs : List V}, RelL F (fs.map (·.2)) xs → (∀ {d}, fs.lookup f = some d → ∃ v, ((fs.map (·.1)).zip xs).lookup f = some v ∧ Rel F d v) ∧ (fs.lookup f = none → ((fs.map (·.1)).zip xs).lookup f = none)
  | [], xs, h => ⟨(fun {d} q => nomatch q), fun _ => by rw [List.map_nil, List.zip_nil_left] <;> rfl⟩
  | (g, d0) :: fs, xs, h => by
    obtain ⟨x, r, rfl, h1, h2⟩ := h
    obtain ⟨i1, i2⟩ := lookup_ok (f := f) h2
    rw [List.map_cons, List.zip_cons_cons]
    cases q : (f == g) with
    | true =>
      refine ⟨fun {d} e => ?_, fun e => ?_⟩
      · simp only [List.lookup_cons, q] at e
        cases e
        exact ⟨x, by simp only [List.lookup_cons, q], h1⟩
      · simp only [List.lookup_cons, q] at e
        cases e
    | false =>
      refine ⟨fun {d} e => ?_, fun e => ?_⟩
      · simp only [List.lookup_cons, q] at e ⊢
        exact i1 e
      · simp only [List.lookup_cons, q] at e ⊢
        exact i2 e
def putFD (f : Str) (v : DV) : List (Str × DV) → List (Str × DV)
  | [] => [(f, v)]
  | (g, x) :: r => if g = f then (g, v) :: r else (g, x) :: putFD f v r
theorem putF_ok {F : Fm} {f : Str} {d : DV} {v : V} (rd : Rel F d v) : ∀ {fs : List (Str × DV)} {xs : List V}, RelL F (fs.map (·.2)) xs → ∃ ys, RelL F ((putFD f d fs).map (·.2)) ys ∧ putF f v ((fs.map (·.1)).zip xs) = ((putFD f d fs).map (·.1)).zip ys
  | [], xs, h => ⟨[v], rel1 rd, by rw [List.map_nil, List.zip_nil_left] <;> rfl⟩
  | (g, d0) :: fs, xs, h => by
    obtain ⟨x, r, rfl, h1, h2⟩ := h
    rw [List.map_cons, List.zip_cons_cons]
    unfold putFD putF
    by_cases q : g = f
    · simp only [q, if_true]
      exact ⟨v :: r, .cons rd h2, by rw [List.map_cons, List.zip_cons_cons]⟩
    · simp only [q, if_false]
      obtain ⟨ys, i1, i2⟩ := putF_ok (f := f) rd h2
      exact ⟨x :: ys, .cons h1 i1, by rw [List.map_cons, List.zip_cons_cons, i2]⟩
def dFld (T : ATab) (f : Str) (o : DE) : DE := fun ρ S => match o ρ S with
  | some (x, S1) => (match insD S1 x with
    | some (C, fs) => if T.contains (C, f) = true then (match fs.lookup f with
      | some d => some (d, S1)
      | none => none) else none
    | none => none)
  | none => none
/-- what is known of the classes -/
def ATOk (K : PySem.W.Frag) (T : ATab) : Prop := ∀ C f, T.contains (C, f) = true → Cls K (He.ga K C) ∧ NoAttr K (He.ga K C) f
section
variable {X : Cx} {e o : Expr} {g : DE} {T : ATab} {f : Str} {pos : Pos}
theorem ed_fld (hT : ATOk X.K T) (h : ED X e g) (hb : attributeBase e f X.env (eval e X.env) = eval e X.env := by rfl) : ED X (.Attribute e f pos) (dFld T f g) :=
  .of (pe_fld h.pe hb) fun F S H ρ σ d S' Q hk R rr hf hq => by
    unfold dFld at hf
    split at hf
    · rename_i x S1 h1
      split at hf
      · rename_i C fs hi
        obtain ⟨ht, hf⟩ := of_ite hf
        split at hf
        · rename_i d0 hl
          cases hf
          refine rdE.go hk R rr h1 fun F1 H1 v le hk1 R1 r1 rv => ?_
          obtain ⟨n, a, dx, xs, rfl, hc, ha, rfl, e, rl⟩ := insD_ok R1 rv hi
          obtain ⟨w, e1, rw_⟩ := (lookup_ok (f := f) rl).1 hl
          obtain ⟨c1, c2⟩ := hT C f ht
          rw [hk1] at e
          exact ⟨a, _, dx, _, w, rfl, e, c1, c2, e1, hq F1 H1 w le R1 rw_⟩
        · cases hf
      · cases hf
    · cases hf
def dSetF (T : ATab) (f : Str) (v o : DE) : DS := fun ρ S => match v ρ S with
  | some (y, S1) => (match o ρ S1 with
    | some (.loc n, S2) => (match insD S2 (.loc n) with
      | some (C, fs) => if T.contains (C, f) = true ∧ fs.length < 1000 then some (.nx ρ (S2.set n (.ins C (putFD f y fs)))) else none
      | none => none)
    | _ => none)
  | none => none
theorem len_zip {fs : List (Str × DV)} {F : Fm} {xs : List V} (rl : RelL F (fs.map (·.2)) xs) : ((fs.map (·.1)).zip xs).length = fs.length := by
  have := rl.length
  rw [List.length_map] at this
  rw [List.length_zip, List.length_map, ← this, Nat.min_self]
theorem sd_setF {v : Expr} {gv : DE} {spos pos' : Pos} (hT : ATOk X.K T) (hv : ED X v gv) (ho : ED X o g) (hs : swapsWith v (some (.Attribute o f pos')) spos.line X.env = pure false := by rfl) : SD X (.Assign [.Attribute o f pos'] v spos) (dSetF T f gv g) :=
  .of (ps_fld ho.pe hv.pe hs) fun F S H ρ σ oo D hk R rr hf hq => by
    unfold dSetF at hf
    split at hf
    · rename_i y S1 h1
      split at hf
      · rename_i n S2 h2
        split at hf
        · rename_i C fs hi
          obtain ⟨⟨ht, hlen⟩, hf⟩ := of_ite hf
          cases hf
          refine rdE.go hk R rr h1 fun F1 H1 vy le1 hk1 R1 r1 ry => rdE.go hk1 R1 r1 h2 fun F2 H2 vx le2 hk2 R2 r2 rx => ?_
          obtain ⟨n', a, dx, xs, e0, hc, ha, rfl, e, rl⟩ := insD_ok R2 rx hi
          cases e0
          obtain ⟨c1, c2⟩ := hT C f ht
          obtain ⟨ys, i1, i2⟩ := putF_ok (f := f) (ry.le le2) rl
          have e' := e
          rw [hk2] at e'
          refine ⟨a, _, dx, _, rfl, e', c1, c2, by rw [len_zip rl]; exact hlen, hq F2 _ (le1.trans le2) ?_ σ r2⟩
          rw [i2]
          exact R2.write hc rfl ha (fun _ q => nomatch q) rfl ⟨dx, ys, by rw [upd_same, hk2], i1⟩
        · cases hf
      · cases hf
    · cases hf
/-- o.f op= v -/
def dAugF (T : ATab) (f : Str) (p : P2) (v o : DE) : DS := fun ρ S => match o ρ S with
  | some (.loc n, S1) => (match insD S1 (.loc n) with
    | some (C, fs) => if T.contains (C, f) = true then (match fs.lookup f with
      | some x => (match v ρ S1 with
        | some (y, S2) => (match p x y S2 with
          | some (d, S3) => (match insD S3 (.loc n) with
            | some (C', fs') => if C' = C ∧ fs'.length < 1000 then some (.nx ρ (S3.set n (.ins C' (putFD f d fs')))) else none
            | none => none)
          | none => none)
        | none => none)
      | none => none) else none
    | none => none)
  | _ => none
end

/-! ### methods, makers -/
structure MtC (P : Program) (w : World) (K : PySem.W.Frag) (mg : Str → Option Value) (base : Heap) (C m : Str) (k : Nat) (ps : List Str) (dvs : List V) (f : PL) : Prop where
  ex : ∃ (a : Addr) (fd : FuncData) (ds : List Value), Cls K (He.ga K C) ∧ Meth K (He.ga K C) m a ∧ FnOk P w K mg base CX0 k a fd ps (spS K ps.length f) ∧ Binds K fd ps ds ∧ Vals dvs ds
structure MkC (P : Program) (w : World) (K : PySem.W.Frag) (mg : Str → Option Value) (base : Heap) (C : Str) (k : Nat) (ps : List Str) (dvs : List V) (f : PL) : Prop where
  ex : ∃ (a : Addr) (fd : FuncData) (ds : List Value), mg C = some (.ref (He.ga K C)) ∧ Mk K (He.ga K C) a ∧ FnOk P w K mg base CX0 k a fd ps (spS K ps.length f) ∧ Binds K fd ps ds ∧ Vals dvs ds
def dMeth (C m : Str) (f : PL) (dds : List DV) (o : DE) (fa : DA) : DE := fun ρ S => match o ρ S with
  | some (x, S1) => (match insD S1 x with
    | some (C', fs) => if C' = C ∧ fs.lookup m = none then (match fa ρ S1 with
      | some (xs, S2) => f (x :: (xs ++ dds)) S2
      | none => none) else none
    | none => none)
  | none => none
def dMake (C : Str) (f : PL) (dds : List DV) (fa : DA) : DE := fun ρ S => match fa ρ S with
  | some (xs, S1) => (match f (.loc S1.length :: (xs ++ dds)) (S1 ++ [.ins C []]) with
    | some (.non, S2) => some (.loc S1.length, S2)
    | _ => none)
  | none => none
section
variable {X : Cx} {e o : Expr} {es : List Expr} {g : DE} {fa : DA} {C m x : Str} {k j : Nat} {ps : List Str} {dvs : List V} {dds : List DV} {np n : Nat} {b0 : DS} {p pos apos : Pos}
theorem meth_go {a : Addr} {E : XK} (hd : ∀ F : Fm, RelL F dds dvs) {F : Fm} {S S' : Sto} {H : Hp} {ρ : Ev} {σ : L2.St} {d : DV} {Q : VK} (hk : F.K = X.K) (R : Rep F S H) (rr : RelE F ρ σ) (hf : dMeth C m (runF np n b0) dds g fa ρ S = some (d, S')) (hq : PostE F S' d Q) :
    tMeth (He.ga X.K C) m (spS X.K np (runF np n b0)) dvs E (rdE X.K g) (rdA X.K fa) σ H Q := by
  unfold dMeth at hf
  split at hf
  · rename_i x S1 h1
    split at hf
    · rename_i C' fs hi
      obtain ⟨hc0, hf2⟩ := of_ite hf
      clear hf
      obtain ⟨e0, hl⟩ := hc0
      subst e0
      cases h2 : fa ρ S1 with
      | none =>
        rw [h2] at hf2
        cases hf2
      | some z =>
        obtain ⟨xs, S2⟩ := z
        rw [h2] at hf2
        refine rdE.go hk R rr h1 fun F1 H1 v le hk1 R1 r1 rv => ?_
        obtain ⟨n, a, dx, us, rfl, hc, ha, rfl, e, rl⟩ := insD_ok R1 rv hi
        have hlk := (lookup_ok (f := m) rl).2 hl
        rw [hk1] at e
        refine ⟨a, dx, _, rfl, e, hlk, rdA.go hk1 R1 r1 h2 fun F2 H2 vs le2 hk2 R2 r2 ra => ?_⟩
        exact ⟨F2, S2, .loc n :: (xs ++ dds), d, S', hk2, R2, .cons (rv.le le2) (ra.append (hd F2)), runF_len _ _ _ hf2, hf2, hq.le (le.trans le2)⟩
    · cases hf
  · cases hf
theorem ed_meth (M : MtC X.prog X.w X.K X.mg X.base C m k ps dvs (runF np n b0)) (hn : ps.length = np) (hr : Room j X.A) (hj : k ≤ j) (hd : ∀ F : Fm, RelL F dds dvs) (ho : ED X o g) (ha : AD X (e :: es) fa) {pl : Sem Bool}
    (hst : starEach (e :: es) X.env = (false, eval e X.env) :: starEach es X.env := by rfl) (hpl : (backTo pos (starEach es X.env)).any (·.1) = false := by rfl)
    (ht : eval (.Call (.Attribute o m apos) (e :: es) [] pos) X.env = (do
      let ov ← eval o X.env
      standAt apos.atName
      let (f, first) ← holding [ov] (getMethod ov m pl)
      callWith pos f first (backTo pos (starEach (e :: es) X.env)) (backToKw pos (keywordEach [] X.env))) := by rfl) : ED X (.Call (.Attribute o m apos) (e :: es) [] pos) (dMeth C m (runF np n b0) dds g fa) := by
  subst hn
  obtain ⟨a, fd, ds, h1, h2, h3, h4, h5⟩ := M.ex
  exact .of (pe_meth (E := E0) ho.pe h1 h2 h3 (hr.mono hj) h4 h5 pass0 ha.pa hst hpl ht) fun F S H ρ σ d S' Q hk R rr hf hq => meth_go (a := a) hd hk R rr hf hq
theorem ed_meth0 (M : MtC X.prog X.w X.K X.mg X.base C m k ps dvs (runF np n b0)) (hn : ps.length = np) (hr : Room j X.A) (hj : k ≤ j) (hd : ∀ F : Fm, RelL F dds dvs) (ho : ED X o g) {pl : Sem Bool}
    (ht : eval (.Call (.Attribute o m apos) [] [] pos) X.env = (do
      let ov ← eval o X.env
      standAt apos.atName
      let (f, first) ← holding [ov] (getMethod ov m pl)
      callWith pos f first (backTo pos (starEach [] X.env)) (backToKw pos (keywordEach [] X.env))) := by rfl) : ED X (.Call (.Attribute o m apos) [] [] pos) (dMeth C m (runF np n b0) dds g aNil) := by
  subst hn
  obtain ⟨a, fd, ds, h1, h2, h3, h4, h5⟩ := M.ex
  refine .of (pe_meth0 (E := E0) ho.pe h1 h2 h3 (hr.mono hj) h4 h5 pass0 ht) fun F S H ρ σ d S' Q hk R rr hf hq => ?_
  have g0 := meth_go (a := a) (E := E0) hd hk R rr hf hq
  obtain ⟨F0, S0, ρ0, x0, S10, q1, q2, q3, q4, q5⟩ := g0
  refine ⟨F0, S0, ρ0, x0, S10, q1, q2, q3, q4, fun F' H' v le R' rv => ?_⟩
  obtain ⟨a', dx, fs, z1, z2, z3, z4⟩ := q5 F' H' v le R' rv
  refine ⟨a', dx, fs, z1, z2, z3, ?_⟩
  obtain ⟨F9, S9, ρ9, x9, S19, y1, y2, y3, y4, y5⟩ := z4
  cases (show some (([] : List DV), S9) = some (x9, S19) from y4)
  exact y5 F9 H' [] (.refl F9) y2 rfl
theorem make_go {E : XK} (hd : ∀ F : Fm, RelL F dds dvs) {F : Fm} {S S' : Sto} {H : Hp} {ρ : Ev} {σ : L2.St} {d : DV} {Q : VK} (hk : F.K = X.K) (R : Rep F S H) (rr : RelE F ρ σ) (hf : dMake C (runF np n b0) dds fa ρ S = some (d, S')) (hq : PostE F S' d Q) :
    tMake (He.ga X.K C) (spS X.K np (runF np n b0)) dvs E (rdA X.K fa) σ H Q := by
  unfold dMake at hf
  split at hf
  · rename_i xs S1 h1
    split at hf
    · rename_i S2 h2
      cases hf
      refine rdA.go hk R rr h1 fun F1 H1 vs le hk1 R1 r1 ra x dx hx hdx hne => ?_
      have R2 := R1.beside (o := .own x) hdx (fun _ q => nomatch q)
      have hx2 : upd H1 dx (.own x) x = none := by rw [upd_ne fun q => hne q.symm]; exact hx
      have R3 := R2.alloc (o := .ins (He.ga X.K C) dx []) (c := .ins C []) hx2 (fun _ q => nomatch q) ⟨dx, [], by rw [upd_same, show (F1.cell x).K = X.K from hk1] <;> rfl, rfl⟩
      have le3 := F1.cell_le x
      have rloc : Rel (F1.cell x) (.loc S1.length) (.ref x) := ⟨x, by rw [← R1.len]; exact get_len _ _, rfl⟩
      refine ⟨F1.cell x, S1 ++ [.ins C []], .loc S1.length :: (xs ++ dds), .non, S', hk1, R3, .cons rloc ((ra.append (hd F1)).le le3), runF_len _ _ _ h2, h2, fun F' H' v le' R' rv => ⟨rv, ?_⟩⟩
      exact hq F' H' (.ref x) ((le.trans le3).trans le') R' (rloc.le le')
    · cases hf
  · cases hf
theorem ed_make (M : MkC X.prog X.w X.K X.mg X.base x k ps dvs (runF np n b0)) (hn : ps.length = np) (hr : Room j X.A) (hj : k + 1 ≤ j) (hg : Gl X x) (hd : ∀ F : Fm, RelL F dds dvs) (ha : AD X (e :: es) fa) (hdb : (x == ("__debug__" : Str)) = false := by decide)
    (he : starEach (e :: es) X.env = (false, eval e X.env) :: starEach es X.env := by rfl) (hpl : (backTo pos (starEach es X.env)).any (·.1) = false := by rfl) : ED X (.Call (.Name x p) (e :: es) [] pos) (dMake x (runF np n b0) dds fa) := by
  subst hn
  obtain ⟨a, fd, ds, h1, h2, h3, h4, h5⟩ := M.ex
  exact .of (pe_make (E := E0) h2 h3 (hr.mono hj) hg h1 h4 h5 pass0 ha.pa hdb he hpl) fun F S H ρ σ d S' Q hk R rr hf hq => make_go hd hk R rr hf hq
theorem ed_make0 (M : MkC X.prog X.w X.K X.mg X.base x k ps dvs (runF np n b0)) (hn : ps.length = np) (hr : Room j X.A) (hj : k + 1 ≤ j) (hg : Gl X x) (hd : ∀ F : Fm, RelL F dds dvs) (hdb : (x == ("__debug__" : Str)) = false := by decide) : ED X (.Call (.Name x p) [] [] pos) (dMake x (runF np n b0) dds aNil) := by
  subst hn
  obtain ⟨a, fd, ds, h1, h2, h3, h4, h5⟩ := M.ex
  refine .of (pe_make0 (E := E0) h2 h3 (hr.mono hj) hg h1 h4 h5 pass0 hdb) fun F S H ρ σ d S' Q hk R rr hf hq => ?_
  have g0 := make_go (C := x) (fa := aNil) (E := E0) hd hk R rr hf hq
  obtain ⟨F0, S0, ρ0, x0, S10, q1, q2, q3, q4, q5⟩ := g0
  cases (show some (([] : List DV), S0) = some (x0, S10) from q4)
  exact q5 F0 H [] (.refl F0) q2 rfl
end
theorem MtC.of {P : Program} {w : World} {K : PySem.W.Frag} {mg : Str → Option Value} {base : Heap} {C m x : Str} {k : Nat} {ps : List Str} {f : PL} {a : Addr} {fd : FuncData} {qual : Str} {params : Arguments} {body : List Stmt} {scope : Scope}
    (F : FunD K x qual params body scope [] [] a fd) (hc : (He.Fa.cls C).ok K = true) (hm : (He.Fa.meth C m).ok K = true) (ha : a = He.ma K (He.ga K C) m) (h : FnOk P w K mg base CX0 k a fd ps (spS K ps.length f))
    (hb : ∀ (kV doc pm : Value) (an : Option Addr) (cdv ct : Value) (us : List Value), us.length = ps.length → bindArgs (PySem.W.fnOf x qual params body scope .none kV doc pm an cdv ct) ⟨us, []⟩ = pure (ps.zip us)) : MtC P w K mg base C m k ps [] f := by
  subst ha
  exact ⟨_, fd, [], He.cls_ok hc, He.meth_ok hm, h, F.bindsN hb, .nil⟩
theorem MkC.of {P : Program} {w : World} {K : PySem.W.Frag} {mg : Str → Option Value} {base : Heap} {C x : Str} {k : Nat} {ps : List Str} {f : PL} {a : Addr} {fd : FuncData} {qual : Str} {params : Arguments} {body : List Stmt} {scope : Scope}
    (F : FunD K x qual params body scope [] [] a fd) (hg : mg C = some (.ref (He.ga K C))) (hm : (He.Fa.mkr C).ok K = true) (ha : a = He.ma K (He.ga K C) "__init__") (h : FnOk P w K mg base CX0 k a fd ps (spS K ps.length f))
    (hb : ∀ (kV doc pm : Value) (an : Option Addr) (cdv ct : Value) (us : List Value), us.length = ps.length → bindArgs (PySem.W.fnOf x qual params body scope .none kV doc pm an cdv ct) ⟨us, []⟩ = pure (ps.zip us)) : MkC P w K mg base C k ps [] f := by
  subst ha
  exact ⟨_, fd, [], hg, He.mkr_ok hm, h, F.bindsN hb, .nil⟩
def atB (K : PySem.W.Frag) (T : ATab) : Bool := T.all fun p => (He.Fa.cls p.1).ok K && (He.Fa.noat p.1 p.2).ok K
theorem atOk_of {K : PySem.W.Frag} {T : ATab} (h : atB K T = true) : ATOk K T := fun C f hc => by
  have h1 := List.all_eq_true.mp h (C, f) (List.contains_iff_mem.mp hc)
  obtain ⟨a, b⟩ := Bool.and_eq_true_iff.mp h1
  exact ⟨He.cls_ok a, He.noat_ok b⟩
end Dn

/-! loops and comprehensions over a list that may be changed elsewhere: read place by place -/
namespace Dn
open PySem PySem.Spec PyProof.Rows L2
def forV (n : Nat) (g : DG) (body : DS) : Nat → Nat → DS
  | 0, _ => fun _ _ => none
  | m + 1, i => fun ρ S => match asL S (.loc n) with
    | some ds => (match ds[i]? with
      | some d => (match g d ρ S with
        | some (ρ1, S1) => (match body ρ1 S1 with
          | some (.nx ρ2 S2) => forV n g body m (i + 1) ρ2 S2
          | some (.ct ρ2 S2) => forV n g body m (i + 1) ρ2 S2
          | some (.bk ρ2 S2) => some (.nx ρ2 S2)
          | some (.rt v S2) => some (.rt v S2)
          | none => none)
        | none => none)
      | none => some (.nx ρ S))
    | none => none
def dForV (f : DE) (g : DG) (body : DS) (m : Nat) : DS := fun ρ S => match f ρ S with
  | some (.loc n, S1) => forV n g body m 0 ρ S1
  | _ => none
theorem forV_go {f : DE} {g : DG} {body : DS} {m : Nat} {F : Fm} {S : Sto} {H : Hp} {ρ : Ev} {σ : L2.St} {o : Out} {D : Ends} {K : PySem.W.Frag} (hk : F.K = K) (R : Rep F S H) (rr : RelE F ρ σ) (hf : dForV f g body m ρ S = some o) (hq : PostS F o D) : tFor (iList K (rdE K f)) (rdG K g) (rdS K body) D σ H := by
  unfold dForV at hf
  split at hf
  · rename_i n S1 h1
    refine rdE.go hk R rr h1 fun F1 H1 v le1 hk1 R1 r1 rv => ?_
    have rv0 := rv
    obtain ⟨a, ha, rfl⟩ := rv
    have live : ∀ {F' : Fm} {S' : Sto} {H' : Hp} {ds : List DV}, Le F1 F' → Rep F' S' H' → asL S' (.loc n) = some ds → ∃ xs, SqL K H' a xs ∧ RelL F' ds xs := fun {F' S' H' ds} le R' e => by
      obtain ⟨a', xs, e1, hs, rl⟩ := asL_sq R' (rv0.le le) e
      cases e1
      rw [le.k.trans hk1] at hs
      exact ⟨xs, hs, rl⟩
    cases m with
    | zero => cases hf
    | succ m0 =>
      have h0 : ∃ ds, asL S1 (.loc n) = some ds := by
        unfold forV at hf
        cases e : asL S1 (.loc n) with
        | none =>
          rw [e] at hf
          cases hf
        | some ds => exact ⟨ds, rfl⟩
      obtain ⟨ds0, h0⟩ := h0
      obtain ⟨xs0, hs0, _⟩ := live (.refl F1) R1 h0
      refine ⟨a, rfl, ⟨xs0, hs0⟩, fun i m σ H => ∃ F' S' ρ', Le F1 F' ∧ Rep F' S' H ∧ RelE F' ρ' σ ∧ forV n g body m i ρ' S' = some o, ⟨m0 + 1, F1, S1, ρ, .refl F1, R1, r1, hf⟩, ?_⟩
      rintro i m σ H ⟨F', S', ρ', le', R', r', hf'⟩
      cases m with
      | zero => cases hf'
      | succ m =>
        unfold forV at hf'
        cases e : asL S' (.loc n) with
        | none =>
          rw [e] at hf'
          cases hf'
        | some ds =>
          obtain ⟨xs, hs, rl⟩ := live le' R' e
          simp only [e] at hf'
          cases ed : ds[i]? with
          | none =>
            simp only [ed] at hf'
            cases hf'
            refine .inl ⟨⟨xs, hs, by rw [← rl.length]; exact List.getElem?_eq_none_iff.mp ed⟩, hq F' H (le1.trans le') R' σ r'⟩
          | some d =>
            simp only [ed] at hf'
            obtain ⟨x, hx, rx⟩ := rl.get ed
            refine .inr ⟨⟨xs, x, hs, hx⟩, fun σ' H' => ∃ m', m' < m + 1 ∧ ∃ F' S' ρ', Le F1 F' ∧ Rep F' S' H' ∧ RelE F' ρ' σ' ∧ forV n g body m' (i + 1) ρ' S' = some o, fun _ _ z => z, fun y H2 yl => ?_⟩
            obtain ⟨rfl, y2⟩ := yl
            have ey := (y2 xs hs).symm.trans hx
            cases ey
            cases hg : g d ρ' S' with
            | none =>
              rw [hg] at hf'
              cases hf'
            | some z =>
              obtain ⟨ρ1, S3⟩ := z
              simp only [hg] at hf'
              refine ⟨F', S', ρ', d, ρ1, S3, le'.k.trans hk1, R', r', rx, hg, fun F3 H3 σ3 le3 R3 r3 => ?_⟩
              have le03 : Le F1 F3 := le'.trans le3
              split at hf'
              · rename_i ρ2 S2 hb
                exact rdS.go (le03.k.trans hk1) R3 r3 hb fun F4 H4 le4 R4 σ4 r4 => ⟨m, Nat.lt_succ_self _, F4, S2, ρ2, le03.trans le4, R4, r4, hf'⟩
              · rename_i ρ2 S2 hb
                exact rdS.go (le03.k.trans hk1) R3 r3 hb fun F4 H4 le4 R4 σ4 r4 => ⟨m, Nat.lt_succ_self _, F4, S2, ρ2, le03.trans le4, R4, r4, hf'⟩
              · rename_i ρ2 S2 hb
                cases hf'
                exact rdS.go (le03.k.trans hk1) R3 r3 hb fun F4 H4 le4 R4 σ4 r4 => hq F4 H4 (le1.trans (le03.trans le4)) R4 σ4 r4
              · rename_i v S2 hb
                cases hf'
                exact rdS.go (le03.k.trans hk1) R3 r3 hb fun F4 H4 le4 R4 v rv => hq F4 H4 (le1.trans (le03.trans le4)) R4 v rv
              · cases hf'
  · cases hf
theorem sd_forV {X : Cx} {st : Stmt} {f : DE} {g : DG} {body : DS} (m : Nat) (h : PS X st (tFor (iList X.K (rdE X.K f)) (rdG X.K g) (rdS X.K body))) : SD X st (dForV f g body m) := .of h fun F S H ρ σ o D hk R rr hf hq => forV_go hk R rr hf hq

def lcV (n : Nat) (g : DG) (c fe : DE) (ρ : Ev) : Nat → Nat → Sto → Option (List DV × Sto)
  | 0, _, _ => none
  | m + 1, i, S => match asL S (.loc n) with
    | some ds => (match ds[i]? with
      | some d => (match g d ρ S with
        | some (ρ1, S1) => (match c ρ1 S1 with
          | some (.bl true, S2) => (match fe ρ1 S2 with
            | some (y, S3) => (match lcV n g c fe ρ m (i + 1) S3 with
              | some (ys, S4) => some (y :: ys, S4)
              | none => none)
            | none => none)
          | some (.bl false, S2) => lcV n g c fe ρ m (i + 1) S2
          | _ => none)
        | none => none)
      | none => some ([], S))
    | none => none
def lcRV (f : DE) (g : DG) (c fe : DE) (vs : List Nat) (m : Nat) : DA := fun ρ S => match f ρ S with
  | some (.loc n, S1) => (match lcV n g c fe (dwipe ρ vs) m 0 S1 with
    | some (ys, S2) => if ys.length ≤ sizeLine then some (ys, S2) else none
    | none => none)
  | _ => none
def dLcV (f : DE) (g : DG) (c fe : DE) (vs : List Nat) (m : Nat) : DE := fun ρ S => match lcRV f g c fe vs m ρ S with
  | some (ys, S2) => some (.lst .own ys, S2)
  | none => none
def dLcVM (f : DE) (g : DG) (c fe : DE) (vs : List Nat) (m : Nat) : DE := fun ρ S => match lcRV f g c fe vs m ρ S with
  | some (ys, S2) => some (.loc S2.length, S2 ++ [.lst ys])
  | none => none
theorem lcV_go {K : PySem.W.Frag} {f : DE} {g : DG} {c fe : DE} {vs : List Nat} {m0 : Nat} {t : TG} {tt : TT} (hg : GW K t g vs) (hc : ∀ σ H Q, rdT K c σ H Q → tt σ H Q) {F : Fm} {S S2 : Sto} {H : Hp} {ρ : Ev} {σ : L2.St} {ys : List DV} {Q : VK}
    (hk : F.K = K) (R : Rep F S H) (rr : RelE F ρ σ) (hf : lcRV f g c fe vs m0 ρ S = some (ys, S2))
    (hq : ∀ F' H' D xs, Le F F' → Rep F' S2 H' → H' D = some (.lst xs) → RelL F' ys xs → F'.G D = none → F'.free D → NoCell F' S2 D → Q (.ref D) H') : tLc (iList K (rdE K f)) t tt (rdE K fe) vs σ H Q := by
  unfold lcRV at hf
  split at hf
  · rename_i n S1 h1
    split at hf
    · rename_i ys' S2' h2
      obtain ⟨hsz, hf⟩ := of_ite hf
      cases hf
      refine rdE.go hk R rr h1 fun F1 H1 v le1 hk1 R1 r1' rv => ?_
      have rv0 := rv
      obtain ⟨a, ha, rfl⟩ := rv
      have live : ∀ {F' : Fm} {S' : Sto} {H' : Hp} {ds : List DV}, F'.K = K → F1.lm <+: F'.lm → Rep F' S' H' → asL S' (.loc n) = some ds → ∃ xs, SqL K H' a xs ∧ RelL F' ds xs := fun {F' S' H' ds} hk' hm R' e => by
        obtain ⟨a', xs, e1, hs, rl⟩ := asL_sq R' (d := .loc n) (v := .ref a) ⟨a, prefix_get hm ha, rfl⟩ e
        cases e1
        rw [hk'] at hs
        exact ⟨xs, hs, rl⟩
      have h0 : ∃ ds, asL S1 (.loc n) = some ds := by
        cases m0 with
        | zero => cases h2
        | succ m0 =>
          unfold lcV at h2
          cases e : asL S1 (.loc n) with
          | none =>
            rw [e] at h2
            cases h2
          | some ds => exact ⟨ds, rfl⟩
      obtain ⟨ds0, h0⟩ := h0
      obtain ⟨xs0, hs0, _⟩ := live hk1 (List.prefix_refl _) R1 h0
      refine ⟨a, rfl, ⟨xs0, hs0⟩, fun D hD => ?_⟩
      have r1 := rr.le le1
      refine ⟨fun i m H => ∃ F' S' acc accV rest, Le F1 F' ∧ Rep F' S' H ∧ H D = some (.lst accV) ∧ RelL F' acc accV ∧ F'.G D = none ∧ F'.free D ∧ NoCell F' S' D ∧ lcV n g c fe (dwipe ρ vs) m i S' = some (rest, S2) ∧ ys = acc ++ rest,
        ⟨m0, F1, S1, [], [], ys, .refl F1, R1.beside hD (fun _ q => nomatch q), upd_same, rfl, R1.g.free hD, ⟨R1.b.free hD, R1.p.free hD⟩, R1.noCell hD, h2, rfl⟩, ?_⟩
      rintro i m H ⟨F', S', acc, accV, rest, le', R', eD, ra, gD, fD, nc, hl, ey⟩
      have Rp : Rep (F'.prot (upd F'.P D (.lst accV))) S' H := by
        refine R'.prot (fun a o e => ?_) (fun a o u e => by
          show upd F'.P D (.lst accV) a = _
          rw [upd_ne fun q => by rw [q, fD.2] at e; cases e]
          exact e) fun n c a h l e => ?_
        · by_cases q : a = D
          · rw [q, upd_same] at e
            rw [q, eD]
            exact e
          · rw [upd_ne q] at e
            exact R'.p _ _ e
        · rw [upd_ne fun q => nc n c h l (by rw [← q]; exact e)]
          exact ((R'.cell n c a h e).2 l).2.2
      have wk1 : Wk F1 (F'.prot (upd F'.P D (.lst accV))) := ⟨le'.k, le'.wk.b, le'.g, le'.m⟩
      cases m with
      | zero => cases hl
      | succ m =>
        unfold lcV at hl
        cases e : asL S' (.loc n) with
        | none =>
          rw [e] at hl
          cases hl
        | some ds =>
          simp only [e] at hl
          obtain ⟨xs, hs, rl⟩ := live (le'.k.trans hk1) le'.m R' e
          cases ed : ds[i]? with
          | none =>
            simp only [ed] at hl
            cases hl
            rw [List.append_nil] at ey
            subst ey
            exact .inl ⟨⟨xs, hs, by rw [← rl.length]; exact List.getElem?_eq_none_iff.mp ed⟩, hq F' H D accV (le1.trans le') R' eD ra gD fD nc⟩
          | some d =>
            simp only [ed] at hl
            obtain ⟨x0, hx0, rx0⟩ := rl.get ed
            refine .inr ⟨⟨xs, x0, hs, hx0⟩, fun H' => ∃ m', m' < m + 1 ∧ (∃ F' S' acc accV rest, Le F1 F' ∧ Rep F' S' H' ∧ H' D = some (.lst accV) ∧ RelL F' acc accV ∧ F'.G D = none ∧ F'.free D ∧ NoCell F' S' D ∧ lcV n g c fe (dwipe ρ vs) m' (i + 1) S' = some (rest, S2) ∧ ys = acc ++ rest), fun _ z => z, fun x H2 yl => ?_⟩
            obtain ⟨rfl, y2⟩ := yl
            have eyx := (y2 xs hs).symm.trans hx0
            cases eyx
            have le2 : Le (F'.prot (upd F'.P D (.lst accV))) (F'.prot (upd F'.P D (.lst accV))) := .refl _
            have R2 := Rp
            have rx : Rel (F'.prot (upd F'.P D (.lst accV))) d x0 := Rel.wk (F := F') (⟨rfl, Same.refl F'.B, Same.refl F'.G, List.prefix_refl F'.lm⟩ : Wk F' (F'.prot (upd F'.P D (.lst accV)))) _ _ rx0
            have rE2 : RelE (F'.prot (upd F'.P D (.lst accV))) (dwipe ρ vs) (wipe σ vs) := relE_wipe (r1.wk wk1) vs
            have back : ∀ {F4 : Fm} {S4 : Sto} {H4 : Hp}, Le (F'.prot (upd F'.P D (.lst accV))) F4 → Rep F4 S4 H4 → H4 D = some (.lst accV) ∧ Le F1 (F4.prot F1.P) ∧ F4.G D = none ∧ F4.B D = none ∧ F1.P D = none ∧ NoCell F4 S4 D ∧ Rep (F4.prot F1.P) S4 H4 ∧ RelL F4 acc accV := fun {F4 S4 H4} le4 R4 => by
              have eP : F4.P = upd F'.P D (.lst accV) := le4.p
              have ePD : F4.P D = some (.lst accV) := by rw [eP, upd_same]
              have pp : F'.P = F1.P := le'.p
              have gD4 : F4.G D = none := by
                cases q : F4.G D with
                | none => rfl
                | some o =>
                  rcases le4.n D o q with h | h
                  · have h2 : F'.G D = some o := h
                    rw [gD] at h2
                    cases h2
                  · have h2 : upd F'.P D (HO.lst accV) D = none := h.2
                    rw [upd_same] at h2
                    cases h2
              have pD : F1.P D = none := by rw [← pp]; exact fD.2
              have nc4 : NoCell F4 S4 D := fun n c h l e => by
                have h3 := ((R4.cell n c D h e).2 l).2.2
                rw [ePD] at h3
                cases h3
              refine ⟨R4.p _ _ ePD, ⟨le4.k.trans le'.k, le4.b.trans le'.b, rfl, le'.g.trans le4.g, fun a o e => ?_, le'.m.trans le4.m⟩, gD4, ?_, pD, nc4, ?_, RelL.wk (F := F') ?_ _ _ ra⟩
              · rcases le4.n a o e with h | h
                · exact le'.n a o h
                · right
                  have h1 : F'.B a = none := h.1
                  have h2 : upd F'.P D (HO.lst accV) a = none := h.2
                  have h3 : F'.P a = none := by
                    by_cases q : a = D
                    · rw [q, upd_same] at h2
                      cases h2
                    · rw [upd_ne q] at h2
                      exact h2
                  exact ⟨by rw [← le'.b]; exact h1, by rw [← pp]; exact h3⟩
              · rw [le4.b]
                exact fD.1
              · refine R4.prot (fun a o e => ?_) (fun a o u e => by
              rw [eP] at e
              by_cases q : a = D
              · rw [q, upd_same] at e
                cases e
              · rw [upd_ne q, pp] at e
                exact e) fun n c a h l e => ?_
                · refine R4.p _ _ ?_
                  rw [eP, upd_ne (fun q => by rw [q, pD] at e; cases e), pp]
                  exact e
                · have h3 := ((R4.cell n c a h e).2 l).2.2
                  rw [eP] at h3
                  by_cases q : a = D
                  · rw [q]
                    exact pD
                  · rw [upd_ne q, pp] at h3
                    exact h3
              · exact ⟨le4.k, le4.wk.b, le4.g, le4.m⟩
            split at hl
            · rename_i ρ1 S3 hg1
              refine hg (F'.prot (upd F'.P D (.lst accV))) S' H2 _ _ _ x0 ρ1 S3 _ (le'.k.trans (le1.k.trans hk)) R2 rE2 rx hg1 fun σ3 hS r3 w3 => ⟨w3.trans wipe_wipe, ?_⟩
              subst hS
              split at hl
              · rename_i S5 hc1
                refine hc _ _ _ (rdT.go (F := F'.prot (upd F'.P D (.lst accV))) (le'.k.trans (le1.k.trans hk)) R2 r3 hc1 fun F3 H3 le3 hk3 R3 r4 => ?_)
                rw [if_pos rfl]
                split at hl
                · rename_i y1 S6 he1
                  split at hl
                  · rename_i ys7 S7 hl7
                    cases hl
                    refine rdE.go hk3 R3 r4 he1 fun F4 H4 v le4 hk4 R4 r5 rv => ?_
                    obtain ⟨b1, b2, b3, b4, b5, b6, b7, b8⟩ := back (le3.trans le4) R4
                    have hlen := ra.length
                    refine ⟨accV, b1, ?_, m, Nat.lt_succ_self _, F4.prot F1.P, S6, acc ++ [y1], accV ++ [v], ys7, b2, b7.over b3 ⟨b4, b5⟩ b6 (fun _ q => nomatch q), upd_same, ?_, b3, ⟨b4, b5⟩, b6, hl7, by rw [ey, List.append_assoc] <;> rfl⟩
                    · rw [ey] at hsz
                      simp only [List.length_append, List.length_cons] at hsz
                      omega
                    · exact RelL.wk (F := F4) (F' := F4.prot F1.P) (⟨rfl, Same.refl F4.B, Same.refl F4.G, List.prefix_refl F4.lm⟩ : Wk F4 (F4.prot F1.P)) _ _ (b8.append (RelL.cons rv rfl))
                  · cases hl
                · cases hl
              · rename_i S5 hc1
                refine hc _ _ _ (rdT.go (F := F'.prot (upd F'.P D (.lst accV))) (le'.k.trans (le1.k.trans hk)) R2 r3 hc1 fun F3 H3 le3 hk3 R3 r4 => ?_)
                rw [if_neg Bool.false_ne_true]
                obtain ⟨b1, b2, b3, b4, b5, b6, b7, b8⟩ := back le3 R3
                exact ⟨m, Nat.lt_succ_self _, F3.prot F1.P, S5, acc, accV, rest, b2, b7, b1, RelL.wk (F := F3) (F' := F3.prot F1.P) (⟨rfl, Same.refl F3.B, Same.refl F3.G, List.prefix_refl F3.lm⟩ : Wk F3 (F3.prot F1.P)) _ _ b8, b3, ⟨b4, b5⟩, b6, hl, ey⟩
              · cases hl
            · cases hl
    · cases hf
  · cases hf
theorem lcV_own {K : PySem.W.Frag} {f : DE} {g : DG} {c fe : DE} {vs : List Nat} {m0 : Nat} {t : TG} {tt : TT} (hg : GW K t g vs) (hc : ∀ σ H Q, rdT K c σ H Q → tt σ H Q) {F : Fm} {S S' : Sto} {H : Hp} {ρ : Ev} {σ : L2.St} {d : DV} {Q : VK}
    (hk : F.K = K) (R : Rep F S H) (rr : RelE F ρ σ) (hf : dLcV f g c fe vs m0 ρ S = some (d, S')) (hq : PostE F S' d Q) : tLc (iList K (rdE K f)) t tt (rdE K fe) vs σ H Q := by
  unfold dLcV at hf
  split at hf
  · rename_i ys S2 h
    cases hf
    refine lcV_go hg hc hk R rr h fun F' H' D xs le R' eD r gD fD nc => ?_
    obtain ⟨R2, le2⟩ := R'.adopt eD gD fD nc
    exact hq _ _ _ (le.trans le2) R2 ⟨D, xs, rfl, upd_same, r.le le2⟩
  · cases hf
theorem lcV_mut {K : PySem.W.Frag} {f : DE} {g : DG} {c fe : DE} {vs : List Nat} {m0 : Nat} {t : TG} {tt : TT} (hg : GW K t g vs) (hc : ∀ σ H Q, rdT K c σ H Q → tt σ H Q) {F : Fm} {S S' : Sto} {H : Hp} {ρ : Ev} {σ : L2.St} {d : DV} {Q : VK}
    (hk : F.K = K) (R : Rep F S H) (rr : RelE F ρ σ) (hf : dLcVM f g c fe vs m0 ρ S = some (d, S')) (hq : PostE F S' d Q) : tLc (iList K (rdE K f)) t tt (rdE K fe) vs σ H Q := by
  unfold dLcVM at hf
  split at hf
  · rename_i ys S2 h
    cases hf
    refine lcV_go hg hc hk R rr h fun F' H' D xs le R' eD r gD fD nc => ?_
    have R2 := R'.cell_new (c := .lst ys) ⟨xs, eD, r.le (F'.cell_le D)⟩ gD fD nc
    exact hq _ _ _ (le.trans (F'.cell_le D)) R2 ⟨D, by rw [← R'.len]; exact get_len _ _, rfl⟩
  · cases hf
section
variable {X : Cx} {e : Expr} {st : Stmt} {f : DE} {g : DG} {c fe : DE} {vs : List Nat} {t : TG} {tt : TT}
theorem ed_lcV (m : Nat) (h : PE X e (tLc (iList X.K (rdE X.K f)) t tt (rdE X.K fe) vs)) (hg : GW X.K t g vs) (hc : ∀ σ H Q, rdT X.K c σ H Q → tt σ H Q) : ED X e (dLcV f g c fe vs m) :=
  .of h fun F S H ρ σ d S' Q hk R rr hf hq => lcV_own hg hc hk R rr hf hq
theorem ed_lcVM (m : Nat) (h : PE X e (tLc (iList X.K (rdE X.K f)) t tt (rdE X.K fe) vs)) (hg : GW X.K t g vs) (hc : ∀ σ H Q, rdT X.K c σ H Q → tt σ H Q) : ED X e (dLcVM f g c fe vs m) :=
  .of h fun F S H ρ σ d S' Q hk R rr hf hq => lcV_mut hg hc hk R rr hf hq
theorem sd_setLcV {i : Nat} (m : Nat) (h : PS X st (tAsg (tLc (iList X.K (rdE X.K f)) t tt (rdE X.K fe) vs) (gName i))) (hg : GW X.K t g vs) (hc : ∀ σ H Q, rdT X.K c σ H Q → tt σ H Q) : SD X st (dSet i (dLcV f g c fe vs m)) :=
  sd_set ⟨fun pins s σ H D I hw => h.run pins s σ H D I (by
    obtain ⟨F, S, ρ, d, S', hk, R, rr, hf, hq⟩ := hw
    exact lcV_own hg hc hk R rr hf hq)⟩
theorem sd_setLcVM {i : Nat} (m : Nat) (h : PS X st (tAsg (tLc (iList X.K (rdE X.K f)) t tt (rdE X.K fe) vs) (gName i))) (hg : GW X.K t g vs) (hc : ∀ σ H Q, rdT X.K c σ H Q → tt σ H Q) : SD X st (dSet i (dLcVM f g c fe vs m)) :=
  sd_set ⟨fun pins s σ H D I hw => h.run pins s σ H D I (by
    obtain ⟨F, S, ρ, d, S', hk, R, rr, hf, hq⟩ := hw
    exact lcV_mut hg hc hk R rr hf hq)⟩
end
end Dn

namespace Dn
open PySem PySem.Spec PyProof.Rows L2
section
variable {X : Cx} {o value a b e : Expr} {f : Str} {pos pos' tpos : Pos} {T : ATab} {g gv : DE}
/-! ### o.f op= v -/
theorem sd_augF {op : Operator} {p : P2} {rd : V → V → Hp → VK → Prop} (hT : ATOk X.K T) (hop : InOp X op rd) (hp : Ok2 X.K p rd) (hv : ED X value gv) (ho : ED X o g) : SD X (.AugAssign (.Attribute o f tpos) op value pos) (dAugF T f p gv g) :=
  .of (ps_fldaug ho.pe hv.pe hop) fun F S H ρ σ oo D hk R rr hf hq => by
    unfold dAugF at hf
    split at hf
    · rename_i n S1 h1
      split at hf
      · rename_i C fs hi
        obtain ⟨ht, hf⟩ := of_ite hf
        split at hf
        · rename_i x hl
          split at hf
          · rename_i y S2 h2
            split at hf
            · rename_i d S3 h3
              split at hf
              · rename_i C' fs' hi'
                obtain ⟨⟨hc, hlen⟩, hf⟩ := of_ite hf
                cases hf
                subst hc
                refine rdE.go hk R rr h1 fun F1 H1 vx le1 hk1 R1 r1 rx => ?_
                obtain ⟨n', a, dx, xs, e0, hcell, ha, rfl, e, rl⟩ := insD_ok R1 rx hi
                cases e0
                obtain ⟨c1, c2⟩ := hT C' f ht
                obtain ⟨w, e1, rw_⟩ := (lookup_ok (f := f) rl).1 hl
                rw [hk1] at e
                refine ⟨a, _, dx, _, w, rfl, e, c1, c2, e1, rdE.go hk1 R1 r1 h2 fun F2 H2 vy le2 hk2 R2 r2 ry => ?_⟩
                refine hp F2 S2 H2 x y w vy d S3 _ hk2 R2 (rw_.le le2) ry h3 fun F3 H3 vd le3 R3 rd3 => ?_
                have hk3 : F3.K = X.K := le3.k.trans hk2
                obtain ⟨n2, a2, dx2, xs2, e02, hcell2, ha2, ea2, e2, rl2⟩ := insD_ok R3 (rx.le (le2.trans le3)) hi'
                cases e02
                cases ea2
                obtain ⟨ys, i1, i2⟩ := putF_ok (f := f) rd3 rl2
                have e2' := e2
                rw [hk3] at e2'
                refine ⟨dx2, _, e2', by rw [len_zip rl2]; exact hlen, hq F3 _ ((le1.trans le2).trans le3) ?_ σ (r2.le le3)⟩
                rw [i2]
                exact R3.write hcell2 rfl ha2 (fun _ q => nomatch q) rfl ⟨dx2, ys, by rw [upd_same, hk3], i1⟩
              · cases hf
            · cases hf
          · cases hf
        · cases hf
      · cases hf
    · cases hf
theorem ok_rAdd {K : PySem.W.Frag} : Ok2 K pAddI rAdd := ok_ipadd
theorem ok_rSub {K : PySem.W.Frag} : Ok2 K pSub rSub := ok_ipsub
/-! ### is, is not of truths -/
def pIsB (neg : Bool) : P2 := fun x y S => match x, y with
  | .bl a, .bl b => some (.bl (if neg then !decide (a = b) else decide (a = b)), S)
  | _, _ => none
theorem ok_isB {K : PySem.W.Frag} : Ok2 K (pIsB false) rIsB := fun F S H x y vx vy d S' Q hk R rx ry hp hq => by
  unfold pIsB at hp
  split at hp
  · cases hp
    exact ⟨_, _, rx, ry, hq F H _ (.refl F) R rfl⟩
  · cases hp
theorem ok_notB {K : PySem.W.Frag} : Ok2 K (pIsB true) rNotB := fun F S H x y vx vy d S' Q hk R rx ry hp hq => by
  unfold pIsB at hp
  split at hp
  · cases hp
    exact ⟨_, _, rx, ry, hq F H _ (.refl F) R rfl⟩
  · cases hp
variable {f1 f2 : DE}
theorem ed_isB (ha : ED X a f1) (hb : ED X b f2) : ED X (.Compare a [.Is] [b] pos) (dBin (pIsB false) f1 f2) := ed_cmp op_isBl ok_isB ha hb (nomark _)
theorem td_isB (ha : ED X a f1) (hb : ED X b f2) : TD X (.Compare a [.Is] [b] pos) (dBin (pIsB false) f1 f2) := td_cmp op_isBl ok_isB ha hb (nomark _)
theorem ed_isnotB (ha : ED X a f1) (hb : ED X b f2) : ED X (.Compare a [.IsNot] [b] pos) (dBin (pIsB true) f1 f2) := ed_cmp op_notBl ok_notB ha hb (nomark _)
theorem td_isnotB (ha : ED X a f1) (hb : ED X b f2) : TD X (.Compare a [.IsNot] [b] pos) (dBin (pIsB true) f1 f2) := td_cmp op_notBl ok_notB ha hb (nomark _)
@[simp] theorem v_isB {a b : Bool} {S : Sto} : pIsB false (.bl a) (.bl b) S = some (.bl (decide (a = b)), S) := (rfl)
@[simp] theorem v_isnotB {a b : Bool} {S : Sto} : pIsB true (.bl a) (.bl b) S = some (.bl (!decide (a = b)), S) := (rfl)
/-! ### {k: v, ..} -/
def dPairs : List (DE × DE) → Ev → Sto → Option (List (DV × DV) × Sto)
  | [], _, S => some ([], S)
  | (k, v) :: r, ρ, S => match k ρ S with
    | some (x, S1) => (match v ρ S1 with
      | some (y, S2) => (match dPairs r ρ S2 with
        | some (ps, S3) => some ((x, y) :: ps, S3)
        | none => none)
      | none => none)
    | none => none
theorem pairs_go {K : PySem.W.Frag} : ∀ {l : List (DE × DE)} {F : Fm} {S S1 : Sto} {H : Hp} {ρ : Ev} {σ : L2.St} {ps : List (DV × DV)} {Q : List (V × V) → Hp → Prop}, F.K = K → Rep F S H → RelE F ρ σ → dPairs l ρ S = some (ps, S1) →
    (∀ F' H' xs ys, Le F F' → F'.K = K → Rep F' S1 H' → RelE F' ρ σ → RelL F' (ps.map (·.1)) xs → RelL F' (ps.map (·.2)) ys → Q (xs.zip ys) H') → tPairs (l.map fun p => (rdE K p.1, rdE K p.2)) σ H Q
  | [], F, S, S1, H, ρ, σ, ps, Q, hk, R, rr, hf, k => by
    cases (show some (([] : List (DV × DV)), S) = some (ps, S1) from hf)
    exact k F H [] [] (.refl F) hk R rr rfl rfl
  | (tk, tv) :: r, F, S, S1, H, ρ, σ, ps, Q, hk, R, rr, hf, k => by
    unfold dPairs at hf
    split at hf
    · rename_i x Sa h1
      split at hf
      · rename_i y Sb h2
        split at hf
        · rename_i qs Sc h3
          cases hf
          exact rdE.go hk R rr h1 fun F1 H1 vx le1 hk1 R1 r1 rx => rdE.go hk1 R1 r1 h2 fun F2 H2 vy le2 hk2 R2 r2 ry => pairs_go hk2 R2 r2 h3 fun F3 H3 xs ys le3 hk3 R3 r3 ra rb =>
            k F3 H3 (vx :: xs) (vy :: ys) ((le1.trans le2).trans le3) hk3 R3 r3 (.cons (rx.le (le2.trans le3)) ra) (.cons (ry.le le3) rb)
        · cases hf
      · cases hf
    · cases hf
structure PpD (X : Cx) (pos : Pos) (keys : List (Option Expr)) (values : List Expr) (l : List (DE × DE)) : Prop where
  pp : PPs X pos keys values (l.map fun p => (rdE X.K p.1, rdE X.K p.2))
theorem ppd_nil : PpD X pos [] [] [] := ⟨pps_nil⟩
theorem ppd_cons {k v : Expr} {ks : List (Option Expr)} {vs : List Expr} {dk dv : DE} {l : List (DE × DE)} (hk : ED X k dk) (hv : ED X v dv) (hr : PpD X pos ks vs l) : PpD X pos (some k :: ks) (v :: vs) ((dk, dv) :: l) := ⟨pps_cons hk.pe hv.pe hr.pp⟩
def dDisp (l : List (DE × DE)) : DE := fun ρ S => match dPairs l ρ (S ++ [.dik [] []]) with
  | some (ps, S2) => (match S2[S.length]?, keysD (ps.map (·.1)) with
    | some (.dik [] []), some ks => if ks.Nodup ∧ ks.length ≤ 15 then some (.loc S.length, S2.set S.length (.dik ks (ps.map (·.2)))) else none
    | _, _ => none)
  | none => none
theorem merge_new : ∀ {more kvs : List (Key × V)}, (more.map (·.1)).Nodup → (∀ k ∈ more.map (·.1), valV kvs k = none) → mergeK kvs more = kvs ++ more
  | [], kvs, _, _ => (List.append_nil _).symm
  | (k, v) :: r, kvs, hn, hv => by
    rw [List.map_cons, List.nodup_cons] at hn
    have e : putK kvs k v = kvs ++ [(k, v)] := putK_new v (hv k (by simp))
    have ih := merge_new (more := r) (kvs := putK kvs k v) hn.2 fun j hj => by
      rw [valV_put, if_neg fun q => hn.1 (by rw [← q]; exact hj)]
      exact hv j (by rw [List.map_cons]; exact List.mem_cons_of_mem _ hj)
    show mergeK (putK kvs k v) r = _
    rw [ih, e, List.append_assoc] <;> rfl
theorem zip_kv : ∀ {ks : List Key} {ys : List V}, (ks.map kV).zip ys = (ks.zip ys).map fun kv => (kV kv.1, kv.2)
  | [], ys => by rw [List.map_nil, List.zip_nil_left, List.zip_nil_left] <;> rfl
  | k :: ks, [] => by rw [List.zip_nil_right, List.zip_nil_right] <;> rfl
  | k :: ks, y :: ys => by rw [List.map_cons, List.zip_cons_cons, List.zip_cons_cons, List.map_cons, zip_kv]
theorem keysD_len : ∀ {ds : List DV} {ks : List Key}, keysD ds = some ks → ks.length = ds.length
  | [], ks, h => by
    cases (show some ([] : List Key) = some ks from h)
    rfl
  | d :: ds, ks, h => by
    unfold keysD at h
    split at h
    · split at h
      · rename_i ks' h2
        cases h
        rw [List.length_cons, List.length_cons, keysD_len h2]
      · cases h
    · cases h
theorem ed_disp {keys : List (Option Expr)} {values : List Expr} {l : List (DE × DE)} (h : PpD X pos keys values l) (hall : keys.all (·.isSome) = true := by rfl) (hl : keys.length = values.length := by rfl) (h0 : keys ≠ [] := by exact fun q => nomatch q)
    (h15 : keys.length ≤ 15 := by decide) : ED X (.Dict keys values pos) (dDisp l) :=
  .of (pe_disp h.pp hall hl h0 h15) fun F S H ρ σ d S' Q hk R rr hf hq p hp => by
    unfold dDisp at hf
    split at hf
    · rename_i ps S2 h1
      split at hf
      · rename_i ks hc hks
        obtain ⟨⟨hnd, hle⟩, hf⟩ := of_ite hf
        cases hf
        have R' := R.alloc (o := .dK []) (c := .dik [] []) hp (fun _ q => nomatch q) ⟨[], rfl, upd_same, rfl⟩
        have le := F.cell_le p
        have hat : (F.cell p).lm[S.length]? = some p := by rw [← R.len]; exact get_len _ _
        refine pairs_go (F := F.cell p) hk R' (rr.le le) h1 fun F2 H2 xs ys le2 hk2 R2 r2 ra rb => ?_
        have ha2 : F2.lm[S.length]? = some p := prefix_get le2.m hat
        obtain ⟨⟨us, hz, e, ru⟩, _⟩ := R2.cell _ _ p hc ha2
        have e' : H2 p = some (.dK []) := by rw [e, List.zip_nil_left]
        obtain rfl := keysD_ok ra hks
        have hlen : ks.length = ys.length := by
          rw [← rb.length, List.length_map, keysD_len hks, List.length_map]
        refine ⟨e', ks.zip ys, zip_kv, by rw [List.length_zip, ← hlen, Nat.min_self]; exact hle, ?_⟩
        have hm : mergeK [] (ks.zip ys) = ks.zip ys := by
          rw [merge_new (by rw [List.map_fst_zip (by omega)]; exact hnd) fun _ _ => rfl, List.nil_append]
        rw [hm]
        refine hq F2 _ _ (le.trans le2) (R2.write hc rfl ha2 (fun _ q => nomatch q) rfl ⟨ys, ?_, upd_same, rb⟩) ⟨p, ha2, rfl⟩
        rw [List.length_map, keysD_len hks, List.length_map]
      · cases hf
    · cases hf
end
end Dn

namespace Dn
open PySem PySem.Spec PyProof.Rows L2
/-! ### objects' fields, evaluated -/
section
variable {T : ATab} {f C m : Str} {g o v e : DE} {fa : DA} {ρ : Ev} {S S0 S1 S2 : Sto} {n : Nat} {fs fs' : List (Str × DV)} {d x y : DV} {F : PL} {xs : List DV} {p : P2}
theorem fld_at (hg : g ρ S0 = some (.loc n, S)) (hS : S[n]? = some (.ins C fs)) (hT : T.contains (C, f) = true) (hl : fs.lookup f = some d) : dFld T f g ρ S0 = some (d, S) := by
  unfold dFld
  simp only [hg, insD, hS]
  rw [if_pos hT]
  simp only [hl]
theorem setF_at (hv : v ρ S0 = some (y, S1)) (hg : g ρ S1 = some (.loc n, S)) (hS : S[n]? = some (.ins C fs)) (hT : T.contains (C, f) = true) (hlen : fs.length < 1000) : dSetF T f v g ρ S0 = some (.nx ρ (S.set n (.ins C (putFD f y fs)))) := by
  unfold dSetF
  simp only [hv, hg, insD, hS]
  rw [if_pos ⟨hT, hlen⟩]
theorem augF_at (hg : g ρ S0 = some (.loc n, S)) (hS : S[n]? = some (.ins C fs)) (hT : T.contains (C, f) = true) (hl : fs.lookup f = some x) (hv : v ρ S = some (y, S1)) (hp : p x y S1 = some (d, S2)) (hS2 : S2[n]? = some (.ins C fs')) (hlen : fs'.length < 1000) :
    dAugF T f p v g ρ S0 = some (.nx ρ (S2.set n (.ins C (putFD f d fs')))) := by
  unfold dAugF
  simp only [hg, insD, hS]
  rw [if_pos hT]
  simp only [hl, hv, hp, hS2]
  rw [if_pos ⟨trivial, hlen⟩]
theorem meth_at (hg : o ρ S0 = some (.loc n, S)) (hS : S[n]? = some (.ins C fs)) (hl : fs.lookup m = none) (ha : fa ρ S = some (xs, S2)) : dMeth C m F [] o fa ρ S0 = F (.loc n :: xs) S2 := by
  unfold dMeth
  simp only [hg, insD, hS]
  rw [if_pos ⟨trivial, hl⟩]
  simp only [ha, List.append_nil]
end
section
variable {S S0 S1 S2 S3 : Sto} {n : Nat} {ks : List Key} {vs ds : List DV} {x : Str} {y d : DV} {i : Int} {j : Nat} {ρ : Ev} {f g h v o : DE}
theorem setI_dik (hS : S[n]? = some (.dik ks vs)) (hz : ks.length < 16777216) : setI (.loc n) (.str x) y S = some (S.set n (.dik (putKs ks (.inr x)) (putVs ks vs (.inr x) y))) := by
  unfold setI
  simp only [hS, keyD]
  rw [if_pos (by rw [size_eq]; exact hz)]
theorem setI_lst (hS : S[n]? = some (.lst ds)) (hi : ixN ds.length i = some j) : setI (.loc n) (.int i) y S = some (S.set n (.lst (ds.set j y))) := by
  unfold setI
  simp only [hS, hi]
theorem sub_at {k : DV} (hv : v ρ S = some (y, S1)) (ho : o ρ S1 = some (d, S2)) (hi : g ρ S2 = some (k, S3)) (hs : setI d k y S3 = some S0) : dSub v o g ρ S = some (.nx ρ S0) := by
  unfold dSub
  simp only [hv, ho, hi, hs]
theorem getD_dik (hS : S[n]? = some (.dik ks vs)) : getD S (.loc n) (.str x) = some (lkD ks vs (.inr x)) := by
  unfold getD asK keyD
  simp only [hS]
theorem getD_bor {k : LK} : getD S (.dik k ks vs) (.str x) = some (lkD ks vs (.inr x)) := (rfl)
theorem isD_dik (hS : S[n]? = some (.dik ks vs)) : isD S (.loc n) = true := by
  unfold isD asK
  simp only [hS]
  rfl
theorem get2_at (hf : f ρ S = some (y, S1)) (hd : isD S1 y = true) (hg : g ρ S1 = some (d, S2)) (hh : h ρ S2 = some (v', S3)) {o' : Option DV} (ho : getD S3 y d = some o') : dGet2 f g h ρ S = some (o'.getD v', S3) := by
  unfold dGet2
  simp only [hf, hg, hh, hd, if_true]
  rw [ho]
  cases o' <;> rfl
theorem ix_dik (hS : S[n]? = some (.dik ks vs)) (hl : lkD ks vs (.inr x) = some d) : pIx (.loc n) (.str x) S = some (d, S) := by
  show (match getD S (.loc n) (.str x) with | some (some d) => some (d, S) | _ => none) = _
  rw [getD_dik hS, hl]
theorem ix_dikB {k : LK} (hl : lkD ks vs (.inr x) = some d) : pIx (.dik k ks vs) (.str x) S = some (d, S) := by
  show (match getD S (.dik k ks vs) (.str x) with | some (some d) => some (d, S) | _ => none) = _
  rw [getD_bor, hl]
theorem cpD_dik {b : Bool} (h : S[n]? = some (.dik ks vs)) (hp : plainL vs = true) : cpD b S (.loc n) = some (.dik (bk b) ks vs) := by
  show cpN b (S.length + 1) S n = _
  unfold cpN
  simp only [h, mapDL_plain hp]
end
/-! ### dicts in plain Lean -/
def lkG {κ α : Type} [DecidableEq κ] : List κ → List α → κ → Option α
  | k :: ks, d :: ds, j => if k = j then some d else lkG ks ds j
  | _, _, _ => none
def putG {κ α : Type} [DecidableEq κ] (ks : List κ) (ds : List α) (j : κ) (x : α) : List α := if hasK ks j = true then rpG j x ks ds else ds ++ [x]
section
variable {κ α : Type} [DecidableEq κ] {f : α → DV} {j : κ} {v : α}
theorem lkD_map : ∀ {ks : List κ} {vs : List α}, lkD ks (vs.map f) j = (lkG ks vs j).map f
  | [], vs => by
    unfold lkD lkG
    rfl
  | k :: ks, [] => by
    unfold lkG
    rfl
  | k :: ks, v :: vs => by
    rw [List.map_cons]
    unfold lkD lkG
    by_cases q : k = j
    · rw [if_pos q, if_pos q] <;> rfl
    · rw [if_neg q, if_neg q]
      exact lkD_map
theorem rpG_map : ∀ {ks : List κ} {vs : List α}, rpG j (f v) ks (vs.map f) = (rpG j v ks vs).map f
  | [], vs => by
    unfold rpG
    rfl
  | k :: ks, [] => rfl
  | k :: ks, u :: vs => by
    rw [List.map_cons]
    unfold rpG
    rw [List.map_cons, rpG_map]
    by_cases q : k = j
    · rw [if_pos q, if_pos q]
    · rw [if_neg q, if_neg q]
theorem putVs_map {ks : List κ} {vs : List α} : putVs ks (vs.map f) j (f v) = (putG ks vs j v).map f := by
  unfold putVs putG
  by_cases q : hasK ks j = true
  · rw [if_pos q, if_pos q, rpG_map]
  · rw [if_neg q, if_neg q, List.map_append] <;> rfl
theorem rpG_mem {P : α → Prop} (hv : P v) : ∀ {ks : List κ} {vs : List α}, (∀ u ∈ vs, P u) → ∀ u ∈ rpG j v ks vs, P u
  | [], vs, h, u, hu => by
    unfold rpG at hu
    cases hu
  | k :: ks, [], h, u, hu => by
    cases hu
  | k :: ks, w :: vs, h, u, hu => by
    unfold rpG at hu
    rcases List.mem_cons.mp hu with e | e
    · by_cases q : k = j
      · rw [if_pos q] at e
        rw [e]
        exact hv
      · rw [if_neg q] at e
        rw [e]
        exact h w List.mem_cons_self
    · exact rpG_mem hv (fun u hu => h u (List.mem_cons_of_mem _ hu)) u e
theorem putG_mem {P : α → Prop} (hv : P v) {ks : List κ} {vs : List α} (h : ∀ u ∈ vs, P u) : ∀ u ∈ putG ks vs j v, P u := by
  unfold putG
  by_cases q : hasK ks j = true
  · rw [if_pos q]
    exact rpG_mem hv h
  · rw [if_neg q]
    intro u hu
    rcases List.mem_append.mp hu with e | e
    · exact h u e
    · rw [List.mem_singleton.mp e]
      exact hv
theorem putG_len {ks : List κ} {vs : List α} (h : ks.length = vs.length) : (putKs ks j).length = (putG ks vs j v).length := by
  unfold putKs putG
  by_cases q : hasK ks j = true
  · rw [if_pos q, if_pos q, rp_len h]
  · rw [if_neg q, if_neg q, List.length_append, List.length_append, h] <;> rfl
theorem putKs_len {ks : List κ} : (putKs ks j).length ≤ ks.length + 1 := by
  unfold putKs
  by_cases q : hasK ks j = true
  · rw [if_pos q]
    omega
  · rw [if_neg q, List.length_append] <;> simp
theorem putKs_has {ks : List κ} (h : hasK ks j = true) : putKs ks j = ks := by
  unfold putKs
  rw [if_pos h]
theorem putG_has {ks : List κ} {vs : List α} (h : hasK ks j = true) : putG ks vs j v = rpG j v ks vs := by
  unfold putG
  rw [if_pos h]
theorem lkG_mem : ∀ {ks : List κ} {vs : List α} {v : α}, lkG ks vs j = some v → v ∈ vs
  | [], vs, v, h => by
    unfold lkG at h
    cases h
  | k :: ks, [], v, h => by
    unfold lkG at h
    cases h
  | k :: ks, u :: vs, v, h => by
    unfold lkG at h
    by_cases q : k = j
    · rw [if_pos q] at h
      cases h
      exact List.mem_cons_self
    · rw [if_neg q] at h
      exact List.mem_cons_of_mem _ (lkG_mem h)
theorem lkG_has : ∀ {ks : List κ} {vs : List α}, ks.length = vs.length → hasK ks j = true → ∃ v, lkG ks vs j = some v
  | [], vs, _, h => by cases h
  | k :: ks, [], h, _ => by cases h
  | k :: ks, u :: vs, hl, h => by
    unfold lkG
    by_cases q : k = j
    · rw [if_pos q]
      exact ⟨_, rfl⟩
    · rw [if_neg q]
      refine lkG_has (Nat.succ.inj hl) ?_
      unfold hasK at h ⊢
      rw [List.any_cons, decide_eq_false q, Bool.false_or] at h
      exact h
end
/-! ### the plain machine in plain Lean -/
abbrev W40 : Int := 1099511627776
def In40 (z : Int) : Prop := 0 ≤ z ∧ z < 1099511627776
inductive Atm where
  | n (i : Int) | x (s : Str)
def Atm.d : Atm → DV
  | .n i => .int i
  | .x s => .str s
def Atm.Ok : Atm → Prop
  | .n i => In40 i
  | .x _ => True
@[simp] theorem Atm.plain_d {a : Atm} : plain a.d = true := by cases a <;> rfl
inductive PRow where
  | say (a : Atm) | copy (x : Str) (a : Atm) | op (x s : Str) (a b : Atm) | load (x c : Str) | store (c : Str) (a : Atm)
  | take (x s : Str) (a : Atm) | lay (s : Str) (a b : Atm) | hear (x : Str) | ifr (a : Atm) (n : Nat) | go (n : Nat) | endr (a : Atm)
def PRow.d : PRow → DV
  | .say a => .tup [.str "say", a.d]
  | .copy x a => .tup [.str "copy", .str x, a.d]
  | .op x s a b => .tup [.str "op", .str x, .str s, a.d, b.d]
  | .load x c => .tup [.str "load", .str x, .str c]
  | .store c a => .tup [.str "store", .str c, a.d]
  | .take x s a => .tup [.str "take", .str x, .str s, a.d]
  | .lay s a b => .tup [.str "lay", .str s, a.d, b.d]
  | .hear x => .tup [.str "hear", .str x]
  | .ifr a n => .tup [.str "if", a.d, .int n]
  | .go n => .tup [.str "go", .int n]
  | .endr a => .tup [.str "end", a.d]
theorem PRow.plain_d {r : PRow} : plain r.d = true := by cases r <;> simp [PRow.d]
def PRow.led (i : Nat) : PRow → List Nat
  | .endr _ => []
  | .go n => [n]
  | .ifr _ n => [n, i + 1]
  | _ => [i + 1]
def ledD (i : Nat) (r : PRow) : DV := .tup ((r.led i).map fun (n : Nat) => .int n)
def leadsD (rows : List PRow) : List DV := rows.mapIdx ledD
def isSign (s : Str) : Prop := s = "+" ∨ s = "-" ∨ s = "*" ∨ s = "<" ∨ s = "=" ∨ s = "&" ∨ s = "|" ∨ s = "^"
def valS (s : Str) (a b : Int) : Int := if s = "+" then (a + b) % W40 else if s = "-" then (a - b) % W40 else if s = "*" then a * b % W40 else
  if s = "<" then (if a < b then 1 else 0) else if s = "=" then (if a = b then 1 else 0) else if s = "&" then Builtin.bitAnd a b else if s = "|" then Builtin.bitOr a b else Builtin.bitXor a b
theorem bits40 {a b : Int} (ha : In40 a) (hb : In40 b) : In40 (Builtin.bitAnd a b) ∧ In40 (Builtin.bitOr a b) ∧ In40 (Builtin.bitXor a b) := by
  obtain ⟨a0, a1⟩ := ha
  obtain ⟨b0, b1⟩ := hb
  have h1 : a.toNat < 2 ^ 40 := by omega
  have h2 : b.toNat < 2 ^ 40 := by omega
  rw [bitAnd_pp a0 b0, Bits.bitOr_pp a0 b0, Bits.bitXor_pp a0 b0]
  have k1 := Nat.and_lt_two_pow a.toNat h2
  have k2 := Nat.or_lt_two_pow h1 h2
  have k3 := Nat.xor_lt_two_pow h1 h2
  unfold In40
  refine ⟨⟨?_, ?_⟩, ⟨?_, ?_⟩, ⟨?_, ?_⟩⟩ <;> omega
theorem valS_40 {s : Str} {a b : Int} (ha : In40 a) (hb : In40 b) : In40 (valS s a b) := by
  obtain ⟨k1, k2, k3⟩ := bits40 ha hb
  have m : ∀ z : Int, In40 (z % W40) := fun z => ⟨Int.emod_nonneg _ (by decide), Int.emod_lt_of_pos _ (by decide)⟩
  unfold valS
  repeat' split
  all_goals first
    | exact m _
    | exact k1
    | exact k2
    | exact k3
    | exact ⟨by decide, by decide⟩
structure PSt where
  at_ : Nat
  done : Nat
  hears : Nat
  res : Option Int
  hk : List Key
  hv : List Int
  ck : List Key
  cv : List Int
  sk : List Key
  sv : List (List Int)
  gone : List Int
def optI : Option Int → DV
  | none => .non
  | some v => .int v
def PSt.worth (st : PSt) : Atm → Int
  | .n i => i
  | .x s => (lkG st.hk st.hv (.inr s)).getD 0
def PSt.out (st : PSt) (x : Str) (v : Int) : PSt := { st with hk := putKs st.hk (.inr x), hv := putG st.hk st.hv (.inr x) v }
def PSt.cell (st : PSt) (c : Str) : Int := (lkG st.ck st.cv (.inr c)).getD 0
def PSt.shelf (st : PSt) (s : Str) : List Int := (lkG st.sk st.sv (.inr s)).getD [0]
def placeN (l : List Int) (v : Int) : Nat := (v % (l.length : Int)).toNat
/-- a row done, but for where it leads -/
def PSt.does (coming : List Int) (st : PSt) : PRow → PSt
  | .say a => { st with gone := st.gone ++ [st.worth a] }
  | .copy x a => st.out x (st.worth a)
  | .op x s a b => st.out x (valS s (st.worth a) (st.worth b))
  | .load x c => st.out x (st.cell c)
  | .store c a => { st with cv := rpG (.inr c) (st.worth a) st.ck st.cv }
  | .take x s a => st.out x ((st.shelf s).getD (placeN (st.shelf s) (st.worth a)) 0)
  | .lay s a b => { st with sv := rpG (.inr s) ((st.shelf s).set (placeN (st.shelf s) (st.worth a)) (st.worth b)) st.sk st.sv }
  | .hear x => { st.out x (coming.getD st.hears 0) with hears := st.hears + 1 }
  | .ifr _ _ => st
  | .go _ => st
  | .endr a => { st with res := some (st.worth a) }
def PSt.next (st : PSt) : PRow → Nat
  | .ifr a n => if st.worth a = 0 then st.at_ + 1 else n
  | .go n => n
  | .endr _ => st.at_
  | _ => st.at_ + 1
def PSt.step (rows : List PRow) (coming : List Int) (st : PSt) : PSt := match st.res with
  | some _ => st
  | none => match rows[st.at_]? with
    | none => st
    | some r => { st.does coming r with done := st.done + 1, at_ := st.next r }
def PRow.Ok (ck sk : List Key) : PRow → Prop
  | .say a => a.Ok
  | .copy _ a => a.Ok
  | .op _ s a b => isSign s ∧ a.Ok ∧ b.Ok
  | .load _ c => hasK ck (.inr c) = true
  | .store c a => hasK ck (.inr c) = true ∧ a.Ok
  | .take _ s a => hasK sk (.inr s) = true ∧ a.Ok
  | .lay s a b => hasK sk (.inr s) = true ∧ a.Ok ∧ b.Ok
  | .hear _ => True
  | .ifr a _ => a.Ok
  | .go _ => True
  | .endr a => a.Ok
structure PSt.Ok (st : PSt) : Prop where
  hl : st.hk.length = st.hv.length
  hr : ∀ v ∈ st.hv, In40 v
  cl : st.ck.length = st.cv.length
  cr : ∀ v ∈ st.cv, In40 v
  sl : st.sk.length = st.sv.length
  sr : ∀ l ∈ st.sv, l ≠ [] ∧ l.length ≤ 1000 ∧ ∀ v ∈ l, In40 v
  hd : st.hk.length ≤ st.done
  gd : st.gone.length ≤ st.done
theorem in0 : In40 0 := ⟨by decide, by decide⟩
theorem PSt.Ok.worth {st : PSt} (O : st.Ok) {a : Atm} (h : a.Ok) : In40 (st.worth a) := by
  cases a with
  | n i => exact h
  | x s =>
    show In40 ((lkG st.hk st.hv (.inr s)).getD 0)
    cases e : lkG st.hk st.hv (.inr s) with
    | none => exact in0
    | some v => exact O.hr v (lkG_mem e)
theorem PSt.Ok.shelf {st : PSt} (O : st.Ok) {s : Str} (h : hasK st.sk (.inr s) = true) : lkG st.sk st.sv (.inr s) = some (st.shelf s) ∧ st.shelf s ≠ [] ∧ (st.shelf s).length ≤ 1000 ∧ ∀ v ∈ st.shelf s, In40 v := by
  obtain ⟨l, e⟩ := lkG_has O.sl h
  have e2 : st.shelf s = l := by
    unfold PSt.shelf
    rw [e]
    rfl
  rw [e2]
  exact ⟨e, O.sr l (lkG_mem e)⟩
theorem PSt.Ok.cell {st : PSt} (O : st.Ok) {c : Str} (h : hasK st.ck (.inr c) = true) : lkG st.ck st.cv (.inr c) = some (st.cell c) ∧ In40 (st.cell c) := by
  obtain ⟨l, e⟩ := lkG_has O.cl h
  have e2 : st.cell c = l := by
    unfold PSt.cell
    rw [e]
    rfl
  rw [e2]
  exact ⟨e, O.cr l (lkG_mem e)⟩
theorem PSt.Ok.out {st : PSt} (O : st.Ok) {x : Str} {v : Int} (hv : In40 v) {d : Nat} (hd : st.done + 1 ≤ d) {h : Nat} {a : Nat} {r : Option Int} : PSt.Ok { st.out x v with done := d, hears := h, at_ := a, res := r } :=
  ⟨putG_len O.hl, putG_mem hv O.hr, O.cl, O.cr, O.sl, O.sr, by
    have h1 : (putKs st.hk (Sum.inr x : Key)).length ≤ st.hk.length + 1 := putKs_len
    have h2 := O.hd
    show (putKs st.hk (Sum.inr x : Key)).length ≤ d
    omega, by
    have h2 := O.gd
    show st.gone.length ≤ d
    omega⟩
theorem placeN_lt {l : List Int} (h : l ≠ []) (v : Int) : placeN l v < l.length := by
  have h1 : 0 < l.length := List.length_pos_iff.mpr h
  have h2 := Int.emod_lt_of_pos v (b := (l.length : Int)) (by omega)
  have h3 := Int.emod_nonneg v (b := (l.length : Int)) (by omega)
  unfold placeN
  omega
theorem PSt.Ok.step {st : PSt} (O : st.Ok) {rows : List PRow} {coming : List Int} (hc : ∀ v ∈ coming, In40 v) (hr : ∀ r ∈ rows, r.Ok st.ck st.sk) : (st.step rows coming).Ok ∧ (st.step rows coming).ck = st.ck ∧ (st.step rows coming).sk = st.sk := by
  unfold PSt.step
  cases e : st.res with
  | some v => exact ⟨O, rfl, rfl⟩
  | none =>
    cases e2 : rows[st.at_]? with
    | none => exact ⟨O, rfl, rfl⟩
    | some r =>
      have hok := hr r (List.mem_of_getElem? e2)
      have hd := O.hd
      have gd := O.gd
      cases r with
      | say a => exact ⟨⟨O.hl, O.hr, O.cl, O.cr, O.sl, O.sr, Nat.le_succ_of_le hd, by simp [PSt.does]; omega⟩, rfl, rfl⟩
      | copy x a => exact ⟨O.out (O.worth hok) (Nat.le_refl _), rfl, rfl⟩
      | op x s a b => exact ⟨O.out (valS_40 (O.worth hok.2.1) (O.worth hok.2.2)) (Nat.le_refl _), rfl, rfl⟩
      | load x c => exact ⟨O.out (O.cell hok).2 (Nat.le_refl _), rfl, rfl⟩
      | store c a => exact ⟨⟨O.hl, O.hr, (O.cl.trans ((rp_len O.cl).trans O.cl).symm), rpG_mem (O.worth hok.2) O.cr, O.sl, O.sr, Nat.le_succ_of_le hd, Nat.le_succ_of_le gd⟩, rfl, rfl⟩
      | take x s a =>
        obtain ⟨_, s1, _, s2⟩ := O.shelf hok.1
        refine ⟨O.out ?_ (Nat.le_refl _), rfl, rfl⟩
        have hlt := placeN_lt s1 (st.worth a)
        rw [List.getD_eq_getElem?_getD, List.getElem?_eq_getElem hlt]
        exact s2 _ (List.getElem_mem hlt)
      | lay s a b =>
        obtain ⟨_, s1, s3, s2⟩ := O.shelf hok.1
        refine ⟨⟨O.hl, O.hr, O.cl, O.cr, (O.sl.trans ((rp_len O.sl).trans O.sl).symm), rpG_mem (P := fun l => l ≠ [] ∧ l.length ≤ 1000 ∧ ∀ v ∈ l, In40 v) ⟨?_, by rw [List.length_set]; exact s3, fun v hv => ?_⟩ O.sr, Nat.le_succ_of_le hd, Nat.le_succ_of_le gd⟩, rfl, rfl⟩
        · exact fun q => s1 (by simpa using q)
        · rcases List.mem_or_eq_of_mem_set hv with h | h
          · exact s2 v h
          · rw [h]
            exact O.worth hok.2.2
      | hear x =>
        refine ⟨O.out ?_ (Nat.le_refl _), rfl, rfl⟩
        rw [List.getD_eq_getElem?_getD]
        cases e3 : coming[st.hears]? with
        | none => exact in0
        | some v => exact hc v (List.mem_of_getElem? e3)
      | ifr a n => exact ⟨⟨O.hl, O.hr, O.cl, O.cr, O.sl, O.sr, Nat.le_succ_of_le hd, Nat.le_succ_of_le gd⟩, rfl, rfl⟩
      | go n => exact ⟨⟨O.hl, O.hr, O.cl, O.cr, O.sl, O.sr, Nat.le_succ_of_le hd, Nat.le_succ_of_le gd⟩, rfl, rfl⟩
      | endr a => exact ⟨⟨O.hl, O.hr, O.cl, O.cr, O.sl, O.sr, Nat.le_succ_of_le hd, Nat.le_succ_of_le gd⟩, rfl, rfl⟩
end Dn

namespace Dn
open PySem PySem.Spec PyProof.Rows L2
/-! ### tuples' places -/
section
variable {a b c d e x : DV} {S : Sto} {s t u y : Str}
@[simp] theorem ix_t1_0 : pIx (.tup [a]) (.int 0) S = some (a, S) := (rfl)
@[simp] theorem ix_t2_0 : pIx (.tup [a, b]) (.int 0) S = some (a, S) := (rfl)
@[simp] theorem ix_t2_1 : pIx (.tup [a, b]) (.int 1) S = some (b, S) := (rfl)
@[simp] theorem ix_t3_0 : pIx (.tup [a, b, c]) (.int 0) S = some (a, S) := (rfl)
@[simp] theorem ix_t3_1 : pIx (.tup [a, b, c]) (.int 1) S = some (b, S) := (rfl)
@[simp] theorem ix_t3_2 : pIx (.tup [a, b, c]) (.int 2) S = some (c, S) := (rfl)
@[simp] theorem ix_t4_0 : pIx (.tup [a, b, c, d]) (.int 0) S = some (a, S) := (rfl)
@[simp] theorem ix_t4_1 : pIx (.tup [a, b, c, d]) (.int 1) S = some (b, S) := (rfl)
@[simp] theorem ix_t4_2 : pIx (.tup [a, b, c, d]) (.int 2) S = some (c, S) := (rfl)
@[simp] theorem ix_t4_3 : pIx (.tup [a, b, c, d]) (.int 3) S = some (d, S) := (rfl)
@[simp] theorem ix_t5_0 : pIx (.tup [a, b, c, d, e]) (.int 0) S = some (a, S) := (rfl)
@[simp] theorem ix_t5_1 : pIx (.tup [a, b, c, d, e]) (.int 1) S = some (b, S) := (rfl)
@[simp] theorem ix_t5_2 : pIx (.tup [a, b, c, d, e]) (.int 2) S = some (c, S) := (rfl)
@[simp] theorem ix_t5_3 : pIx (.tup [a, b, c, d, e]) (.int 3) S = some (d, S) := (rfl)
@[simp] theorem ix_t5_4 : pIx (.tup [a, b, c, d, e]) (.int 4) S = some (e, S) := (rfl)
theorem eqF_str : eqF (.str s) (.str y) = decide (s = y) := by
  show (s == y) = _
  by_cases q : s = y
  · rw [q]
    simp
  · rw [decide_eq_false q]
    simpa using q
@[simp] theorem in_t3 : pIn false (.str y) (.tup [.str s, .str t, .str u]) S = some (.bl (decide (s = y) || (decide (t = y) || decide (u = y))), S) := by
  unfold pIn
  simp [inD, eqF_str, flD]
end
/-! ### the plain machine in the store -/
structure PLoc where
  o : Nat
  l : Nat
  c : Nat
  h : Nat
  ce : Nat
  p : Nat
  g : Nat
  ss : List Nat
def PLoc.fp (L : PLoc) : List Nat := L.o :: L.l :: L.c :: L.h :: L.ce :: L.p :: L.g :: L.ss
def plF (rows : List PRow) (L : PLoc) (st : PSt) : List (Str × DV) :=
  [("rows", .tup (rows.map PRow.d)), ("leads", .loc L.l), ("coming", .loc L.c), ("at", .int st.at_), ("held", .loc L.h), ("cells", .loc L.ce), ("places", .loc L.p), ("gone", .loc L.g), ("hears", .int st.hears), ("done", .int st.done), ("result", optI st.res)]
structure PlAt (S : Sto) (L : PLoc) (rows : List PRow) (coming : List Int) (st : PSt) : Prop where
  o : S[L.o]? = some (.ins "Plain" (plF rows L st))
  l : S[L.l]? = some (.lst (leadsD rows))
  c : S[L.c]? = some (.lst (coming.map .int))
  h : S[L.h]? = some (.dik st.hk (st.hv.map .int))
  ce : S[L.ce]? = some (.dik st.ck (st.cv.map .int))
  p : S[L.p]? = some (.dik st.sk (L.ss.map .loc))
  g : S[L.g]? = some (.lst (st.gone.map .int))
  s : ∀ (i : Nat) (l : List Int), st.sv[i]? = some l → ∃ n : Nat, L.ss[i]? = some n ∧ S[n]? = some (Cell.lst (l.map DV.int))
  sl : L.ss.length = st.sv.length
  sk : st.sk.Nodup
  skl : st.sk.length = st.sv.length
  nd : L.fp.Nodup
/-- what else is in the store stays -/
def Fr (L : PLoc) (S S1 : Sto) : Prop := S1.length = S.length ∧ ∀ i, i ∉ L.fp → S1[i]? = S[i]?
theorem Fr.refl {L : PLoc} {S : Sto} : Fr L S S := ⟨rfl, fun _ _ => rfl⟩
theorem Fr.trans {L : PLoc} {S S1 S2 : Sto} (a : Fr L S S1) (b : Fr L S1 S2) : Fr L S S2 := ⟨b.1.trans a.1, fun i h => (b.2 i h).trans (a.2 i h)⟩
theorem Fr.set {L : PLoc} {S : Sto} {n : Nat} {c : Cell} (h : n ∈ L.fp) : Fr L S (S.set n c) := ⟨List.length_set, fun i hi => List.getElem?_set_ne fun q => hi (by rw [← q]; exact h)⟩
section
variable {S S' : Sto} {L : PLoc} {rows : List PRow} {coming : List Int} {st : PSt}
theorem PlAt.ext (A : PlAt S L rows coming st) (e : ∀ i, i ∈ L.fp → S'[i]? = S[i]?) : PlAt S' L rows coming st := by
  have m : ∀ n ∈ L.ss, n ∈ L.fp := fun n h => by simp [PLoc.fp, h]
  refine ⟨?_, ?_, ?_, ?_, ?_, ?_, ?_, fun i l hl => ?_, A.sl, A.sk, A.skl, A.nd⟩
  · rw [e _ (by simp [PLoc.fp])]; exact A.o
  · rw [e _ (by simp [PLoc.fp])]; exact A.l
  · rw [e _ (by simp [PLoc.fp])]; exact A.c
  · rw [e _ (by simp [PLoc.fp])]; exact A.h
  · rw [e _ (by simp [PLoc.fp])]; exact A.ce
  · rw [e _ (by simp [PLoc.fp])]; exact A.p
  · rw [e _ (by simp [PLoc.fp])]; exact A.g
  · obtain ⟨n, h1, h2⟩ := A.s i l hl
    exact ⟨n, h1, by rw [e _ (m n (List.mem_of_getElem? h1))]; exact h2⟩
theorem PlAt.app {T : Sto} (A : PlAt S L rows coming st) : PlAt (S ++ T) L rows coming st := by
  have m : ∀ {n : Nat} {c : Cell}, S[n]? = some c → (S ++ T)[n]? = some c := fun {n c} h => by
    rw [List.getElem?_append_left (List.getElem?_eq_some_iff.mp h).1]
    exact h
  refine ⟨m A.o, m A.l, m A.c, m A.h, m A.ce, m A.p, m A.g, fun i l hl => ?_, A.sl, A.sk, A.skl, A.nd⟩
  obtain ⟨n, h1, h2⟩ := A.s i l hl
  exact ⟨n, h1, m h2⟩
theorem PlAt.setO (A : PlAt S L rows coming st) (a d h : Nat) (r : Option Int) : PlAt (S.set L.o (.ins "Plain" (plF rows L { st with at_ := a, done := d, hears := h, res := r }))) L rows coming { st with at_ := a, done := d, hears := h, res := r } := by
  have nd := A.nd
  simp only [PLoc.fp, List.nodup_cons, List.mem_cons, not_or] at nd
  obtain ⟨⟨n1, n2, n3, n4, n5, n6, n7⟩, _⟩ := nd
  refine ⟨List.getElem?_set_self (get_lt A.o), ?_, ?_, ?_, ?_, ?_, ?_, fun i l hl => ?_, A.sl, A.sk, A.skl, A.nd⟩
  · rw [List.getElem?_set_ne n1]; exact A.l
  · rw [List.getElem?_set_ne n2]; exact A.c
  · rw [List.getElem?_set_ne n3]; exact A.h
  · rw [List.getElem?_set_ne n4]; exact A.ce
  · rw [List.getElem?_set_ne n5]; exact A.p
  · rw [List.getElem?_set_ne n6]; exact A.g
  · obtain ⟨n, h1, h2⟩ := A.s i l hl
    exact ⟨n, h1, by rw [List.getElem?_set_ne fun q => n7 (by rw [q]; exact List.mem_of_getElem? h1)]; exact h2⟩
theorem PlAt.setH (A : PlAt S L rows coming st) (ks : List Key) (vs : List Int) : PlAt (S.set L.h (.dik ks (vs.map .int))) L rows coming { st with hk := ks, hv := vs } := by
  have nd := A.nd
  simp only [PLoc.fp, List.nodup_cons, List.mem_cons, not_or] at nd
  obtain ⟨⟨n1, n2, n3, n4, n5, n6, n7⟩, ⟨l1, l2, l3, l4, l5, l6⟩, ⟨c1, c2, c3, c4, c5⟩, ⟨h1, h2, h3, h4⟩, _⟩ := nd
  refine ⟨?_, ?_, ?_, List.getElem?_set_self (get_lt A.h), ?_, ?_, ?_, fun i l hl => ?_, A.sl, A.sk, A.skl, A.nd⟩
  · rw [List.getElem?_set_ne (Ne.symm n3)]; exact A.o
  · rw [List.getElem?_set_ne (Ne.symm l2)]; exact A.l
  · rw [List.getElem?_set_ne (Ne.symm c1)]; exact A.c
  · rw [List.getElem?_set_ne h1]; exact A.ce
  · rw [List.getElem?_set_ne h2]; exact A.p
  · rw [List.getElem?_set_ne h3]; exact A.g
  · obtain ⟨n, k1, k2⟩ := A.s i l hl
    exact ⟨n, k1, by rw [List.getElem?_set_ne fun q => h4 (by rw [q]; exact List.mem_of_getElem? k1)]; exact k2⟩
theorem PlAt.setC (A : PlAt S L rows coming st) (vs : List Int) : PlAt (S.set L.ce (.dik st.ck (vs.map .int))) L rows coming { st with cv := vs } := by
  have nd := A.nd
  simp only [PLoc.fp, List.nodup_cons, List.mem_cons, not_or] at nd
  obtain ⟨⟨n1, n2, n3, n4, n5, n6, n7⟩, ⟨l1, l2, l3, l4, l5, l6⟩, ⟨c1, c2, c3, c4, c5⟩, ⟨h1, h2, h3, h4⟩, ⟨e1, e2, e3⟩, _⟩ := nd
  refine ⟨?_, ?_, ?_, ?_, List.getElem?_set_self (get_lt A.ce), ?_, ?_, fun i l hl => ?_, A.sl, A.sk, A.skl, A.nd⟩
  · rw [List.getElem?_set_ne (Ne.symm n4)]; exact A.o
  · rw [List.getElem?_set_ne (Ne.symm l3)]; exact A.l
  · rw [List.getElem?_set_ne (Ne.symm c2)]; exact A.c
  · rw [List.getElem?_set_ne (Ne.symm h1)]; exact A.h
  · rw [List.getElem?_set_ne e1]; exact A.p
  · rw [List.getElem?_set_ne e2]; exact A.g
  · obtain ⟨n, k1, k2⟩ := A.s i l hl
    exact ⟨n, k1, by rw [List.getElem?_set_ne fun q => e3 (by rw [q]; exact List.mem_of_getElem? k1)]; exact k2⟩
theorem PlAt.setG (A : PlAt S L rows coming st) (vs : List Int) : PlAt (S.set L.g (.lst (vs.map .int))) L rows coming { st with gone := vs } := by
  have nd := A.nd
  simp only [PLoc.fp, List.nodup_cons, List.mem_cons, not_or] at nd
  obtain ⟨⟨n1, n2, n3, n4, n5, n6, n7⟩, ⟨l1, l2, l3, l4, l5, l6⟩, ⟨c1, c2, c3, c4, c5⟩, ⟨h1, h2, h3, h4⟩, ⟨e1, e2, e3⟩, ⟨p1, p2⟩, g1, _⟩ := nd
  refine ⟨?_, ?_, ?_, ?_, ?_, ?_, List.getElem?_set_self (get_lt A.g), fun i l hl => ?_, A.sl, A.sk, A.skl, A.nd⟩
  · rw [List.getElem?_set_ne (Ne.symm n6)]; exact A.o
  · rw [List.getElem?_set_ne (Ne.symm l5)]; exact A.l
  · rw [List.getElem?_set_ne (Ne.symm c4)]; exact A.c
  · rw [List.getElem?_set_ne (Ne.symm h3)]; exact A.h
  · rw [List.getElem?_set_ne (Ne.symm e2)]; exact A.ce
  · rw [List.getElem?_set_ne (Ne.symm p1)]; exact A.p
  · obtain ⟨n, k1, k2⟩ := A.s i l hl
    exact ⟨n, k1, by rw [List.getElem?_set_ne fun q => g1 (by rw [q]; exact List.mem_of_getElem? k1)]; exact k2⟩
theorem rpG_get {κ α : Type} [DecidableEq κ] {j : κ} {v : α} : ∀ {ks : List κ} {vs : List α} {i : Nat}, (rpG j v ks vs : List α)[i]? = match ks[i]?, vs[i]? with
    | some k, some u => some (if k = j then v else u)
    | _, _ => none
  | [], vs, i => by
    unfold rpG
    simp
  | k :: ks, [], i => by
    unfold rpG
    cases h : (k :: ks)[i]? <;> simp
  | k :: ks, u :: vs, 0 => by
    unfold rpG
    rfl
  | k :: ks, u :: vs, i + 1 => by
    unfold rpG
    rw [List.getElem?_cons_succ, List.getElem?_cons_succ, List.getElem?_cons_succ, rpG_get]
theorem lkG_ix {κ α : Type} [DecidableEq κ] {j : κ} {v : α} : ∀ {ks : List κ} {vs : List α}, lkG ks vs j = some v → ∃ i : Nat, ks[i]? = some j ∧ vs[i]? = some v ∧ ∀ {β : Type} {us : List β} {u : β}, us[i]? = some u → lkG ks us j = some u
  | [], vs, h => by
    unfold lkG at h
    cases h
  | k :: ks, [], h => by
    unfold lkG at h
    cases h
  | k :: ks, w :: vs, h => by
    unfold lkG at h
    by_cases q : k = j
    · rw [if_pos q] at h
      refine ⟨0, by rw [← q] <;> rfl, h, fun {β us u} hu => ?_⟩
      cases us with
      | nil => cases hu
      | cons x us =>
        unfold lkG
        rw [if_pos q]
        exact hu
    · rw [if_neg q] at h
      obtain ⟨i, h1, h2, h3⟩ := lkG_ix h
      refine ⟨i + 1, h1, h2, fun {β us u} hu => ?_⟩
      cases us with
      | nil => cases hu
      | cons x us =>
        unfold lkG
        rw [if_neg q]
        exact h3 hu
theorem nodup_ix {α : Type} {a : α} : ∀ {l : List α} {i j : Nat}, l.Nodup → l[i]? = some a → l[j]? = some a → i = j
  | [], i, j, _, h, _ => by simp at h
  | x :: l, 0, 0, _, _, _ => rfl
  | x :: l, 0, j + 1, n, h, h2 => by
    rw [List.nodup_cons] at n
    have e : x = a := by simpa using h
    exact absurd (List.mem_of_getElem? (by simpa using h2)) (by rw [← e]; exact n.1)
  | x :: l, i + 1, 0, n, h, h2 => by
    rw [List.nodup_cons] at n
    have e : x = a := by simpa using h2
    exact absurd (List.mem_of_getElem? (by simpa using h)) (by rw [← e]; exact n.1)
  | x :: l, i + 1, j + 1, n, h, h2 => by
    rw [List.nodup_cons] at n
    have h' : l[i]? = some a := by simpa using h
    have h2' : l[j]? = some a := by simpa using h2
    exact congrArg (· + 1) (nodup_ix n.2 h' h2')
/-- where a shelf's places are -/
theorem PlAt.shelf (A : PlAt S L rows coming st) {s : Str} {l : List Int} (h : lkG st.sk st.sv (.inr s) = some l) : ∃ n : Nat, n ∈ L.fp ∧ lkD st.sk (L.ss.map .loc) (.inr s) = some (.loc n) ∧ S[n]? = some (Cell.lst (l.map DV.int)) ∧
    ∀ l', PlAt (S.set n (.lst (l'.map .int))) L rows coming { st with sv := rpG (.inr s) l' st.sk st.sv } := by
  obtain ⟨i, h1, h2, h3⟩ := lkG_ix h
  obtain ⟨n, h4, h5⟩ := A.s i l h2
  have hm : n ∈ L.ss := List.mem_of_getElem? h4
  have nd := A.nd
  simp only [PLoc.fp, List.nodup_cons, List.mem_cons, not_or] at nd
  obtain ⟨⟨n1, n2, n3, n4, n5, n6, n7⟩, ⟨l1, l2, l3, l4, l5, l6⟩, ⟨c1, c2, c3, c4, c5⟩, ⟨k1, k2, k3, k4⟩, ⟨e1, e2, e3⟩, ⟨p1, p2⟩, g1, ns⟩ := nd
  refine ⟨n, by simp [PLoc.fp, hm], by rw [lkD_map, h3 h4] <;> rfl, h5, fun l' => ⟨?_, ?_, ?_, ?_, ?_, ?_, ?_, fun i' u hu => ?_, ?_, A.sk, ?_, A.nd⟩⟩
  · rw [List.getElem?_set_ne fun q => n7 (by rw [← q]; exact hm)]; exact A.o
  · rw [List.getElem?_set_ne fun q => l6 (by rw [← q]; exact hm)]; exact A.l
  · rw [List.getElem?_set_ne fun q => c5 (by rw [← q]; exact hm)]; exact A.c
  · rw [List.getElem?_set_ne fun q => k4 (by rw [← q]; exact hm)]; exact A.h
  · rw [List.getElem?_set_ne fun q => e3 (by rw [← q]; exact hm)]; exact A.ce
  · rw [List.getElem?_set_ne fun q => p2 (by rw [← q]; exact hm)]; exact A.p
  · rw [List.getElem?_set_ne fun q => g1 (by rw [← q]; exact hm)]; exact A.g
  · have hu' : (rpG (Sum.inr s : Key) l' st.sk st.sv)[i']? = some u := hu
    rw [rpG_get] at hu'
    cases e1 : st.sk[i']? with
    | none =>
      rw [e1] at hu'
      cases hu'
    | some k =>
      cases e2 : st.sv[i']? with
      | none =>
        rw [e1, e2] at hu'
        cases hu'
      | some w =>
        rw [e1, e2] at hu'
        cases hu'
        obtain ⟨m, m1, m2⟩ := A.s i' w e2
        by_cases q : k = Sum.inr s
        · have ii : i' = i := by
            exact nodup_ix A.sk (by rw [e1, q]) h1
          subst ii
          rw [if_pos q]
          exact ⟨n, h4, List.getElem?_set_self (get_lt h5)⟩
        · rw [if_neg q]
          refine ⟨m, m1, ?_⟩
          rw [List.getElem?_set_ne]
          · exact m2
          · intro qq
            subst qq
            have : i' = i := nodup_ix ns m1 h4
            subst this
            rw [e1] at h1
            exact q (Option.some.inj h1)
  · show L.ss.length = (rpG (Sum.inr s : Key) l' st.sk st.sv).length
    rw [rp_len A.skl, A.sl, A.skl]
  · show st.sk.length = (rpG (Sum.inr s : Key) l' st.sk st.sv).length
    rw [rp_len A.skl]
end
end Dn

/-! loops over the keys of a live dict: it is locked while it is walked -/
namespace Dn
open PySem PySem.Spec PyProof.Rows L2
def notLok : Cell → Bool
  | .lok _ _ => false
  | _ => true
def unlockS (n : Nat) (S : Sto) : Option Sto := match S[n]? with
  | some (.lok ks ds) => if (S.set n .gone).all notLok = true then some (S.set n (.dik ks ds)) else none
  | _ => none
def unlockO (n : Nat) : Out → Option Out
  | .nx ρ S => (match unlockS n S with | some S' => some (.nx ρ S') | none => none)
  | .rt d S => (match unlockS n S with | some S' => some (.rt d S') | none => none)
  | .bk ρ S => (match unlockS n S with | some S' => some (.bk ρ S') | none => none)
  | .ct ρ S => (match unlockS n S with | some S' => some (.ct ρ S') | none => none)
def iKeyL (f : DE) : DI := fun ρ S => match f ρ S with
  | some (.loc n, S1) => (match S1[n]? with
    | some (.lok ks _) => some (ks.map kdv, S1)
    | _ => none)
  | _ => none
theorem walks_keys {F : Fm} {a : Addr} {o : Obj} {ks : List Key} {xs : List V} (h : F.P a = some (.frz o (.dK (ks.zip xs)))) (hl : ks.length = xs.length) : Walks (Itk a o (ks.zip xs)) F (ks.map kdv) := fun i F' S H w pf R => by
  have e : H a = some (.frz o (.dK (ks.zip xs))) := R.p _ _ (pf _ _ _ h)
  have hz : (ks.zip xs).length = ks.length := by rw [List.length_zip, ← hl, Nat.min_self]
  refine ⟨fun hi => ⟨e, by rw [hz]; rw [List.length_map] at hi; omega⟩, fun d hd => ?_⟩
  have hlt := (List.getElem?_eq_some_iff.mp hd).1
  rw [List.length_map] at hlt
  refine ⟨⟨e, by rw [hz]; exact hlt⟩, fun x H' y => ?_⟩
  obtain ⟨rfl, k, v, h1, rfl⟩ := y
  refine ⟨F', .refl F', R, ?_⟩
  rw [List.getElem?_map] at hd
  have h2 : ks[i]? = some k := by
    have := congrArg (Option.map Prod.fst) h1
    rw [← List.getElem?_map, List.map_fst_zip (by omega)] at this
    exact this
  rw [h2] at hd
  cases hd
  cases k with
  | inl i => exact (rfl : kV (.inl i) = .int i)
  | inr s => exact (rfl : kV (.inr s) = .str s)
section
variable {X : Cx} {e : Expr} {f : DE} {st : Stmt}
theorem id_keyL {tg : Expr} (h : ED X e f) : ID X tg e (iKeyL f) :=
  .of (pi_keys h.pe) fun F S H ρ σ ds S' Q hk R rr hf hq => by
    unfold iKeyL at hf
    split at hf
    · rename_i n S1 h1
      split at hf
      · rename_i ks ds0 hc
        cases hf
        refine rdE.go hk R rr h1 fun F1 H1 v le hk1 R1 r1 rv => ?_
        obtain ⟨a, ha, rfl⟩ := rv
        obtain ⟨⟨o, xs, hz, eP, rl⟩, _⟩ := R1.cell n _ a hc ha
        exact ⟨a, o, rfl, .inl ⟨_, R1.p _ _ eP, hq _ F1 H1 le R1 (walks_keys eP (hz.trans rl.length))⟩⟩
      · cases hf
    · cases hf
/-- a dict's cell is locked -/
theorem Rep.lock {F : Fm} {S : Sto} {H : Hp} (R : Rep F S H) {n : Nat} {ks : List Key} {ds : List DV} {a : Addr} (h : S[n]? = some (.dik ks ds)) (ha : F.lm[n]? = some a) {u : HO} (hu : H a = some u) (od : Obj) (hd : ∃ xs, ks.length = ds.length ∧ u = .dK (ks.zip xs) ∧ RelL F ds xs) :
    Rep { F with P := upd F.P a (.frz od u) } (S.set n (.lok ks ds)) (upd H a (.frz od u)) := by
  obtain ⟨k1, k2⟩ := R.cell n _ a h ha
  obtain ⟨ga, ba, pa⟩ := k2 rfl
  have hlt := (List.getElem?_eq_some_iff.mp h).1
  have wk : Wk F { F with P := upd F.P a (.frz od u) } := ⟨rfl, Same.refl _, Same.refl _, List.prefix_refl _⟩
  have pf : PF F { F with P := upd F.P a (.frz od u) } := fun b o w e => by
    show upd F.P a (.frz od u) b = _
    rw [upd_ne fun q => by rw [q, pa] at e; cases e]
    exact e
  have pl : ∀ b o, F.P b = some o → upd F.P a (.frz od u) b = some o := fun b o e => by
    rw [upd_ne fun q => by rw [q, pa] at e; cases e]
    exact e
  refine ⟨fun b o e => ?_, fun b o e => ?_, fun b o e => ?_, fun b xs e => ?_, by rw [List.length_set]; exact R.len, fun m c b hm hb => ?_, fun m1 m2 c1 c2 b h1 h2 l1 l2 e1 e2 => ?_⟩
  · rw [upd_ne fun q => by rw [q, ga] at e; cases e]
    exact R.g _ _ e
  · rw [upd_ne fun q => by rw [q, ba] at e; cases e]
    exact R.b _ _ e
  · have e' : upd F.P a (.frz od u) b = some o := e
    by_cases q : b = a
    · rw [q, upd_same] at e' ⊢
      exact e'
    · rw [upd_ne q] at e' ⊢
      exact R.p _ _ e'
  · rw [upd_ne fun q => by rw [q, upd_same] at e; cases e] at e
    exact R.tup _ _ e
  · by_cases q : m = n
    · subst q
      rw [List.getElem?_set_self hlt] at hm
      cases hm
      have hb' : F.lm[m]? = some b := hb
      rw [ha] at hb'
      cases hb'
      obtain ⟨xs, hz, rfl, rl⟩ := hd
      exact ⟨⟨od, xs, hz, upd_same, RelL.wk wk _ _ rl⟩, fun q => nomatch q⟩
    · rw [List.getElem?_set_ne (fun z => q z.symm)] at hm
      obtain ⟨j1, j2⟩ := R.cell m c b hm hb
      have ne : c.live = true → b ≠ a := fun l z => q (R.inj m n c _ a hm h l rfl (by rw [← z]; exact hb) ha)
      exact ⟨j1.wk wk pf fun l => upd_ne (ne l), fun l => ⟨(j2 l).1, (j2 l).2.1, by
        show upd F.P a (.frz od u) b = none
        rw [upd_ne (ne l)]
        exact (j2 l).2.2⟩⟩
  · have old : ∀ {m : Nat} {c : Cell}, (S.set n (.lok ks ds))[m]? = some c → c.live = true → S[m]? = some c := fun {m c} hm l => by
      by_cases q : m = n
      · subst q
        rw [List.getElem?_set_self hlt] at hm
        cases hm
        cases l
      · rw [List.getElem?_set_ne (fun z => q z.symm)] at hm
        exact hm
    exact R.inj m1 m2 c1 c2 b (old h1 l1) (old h2 l2) l1 l2 e1 e2
/-- .. and free again -/
theorem Rep.unlock {F F' : Fm} {S' S'' : Sto} {H' : Hp} {a : Addr} {od : Obj} {u : HO} {n : Nat} (hB : F.B a = none) (hG : F.G a = none) (hP : F.P a = none) (hut : ∀ xs, u ≠ .tup xs) (le : Le { F with P := upd F.P a (.frz od u) } F') (R : Rep F' S' H') (ha : F.lm[n]? = some a) (hd : ∃ kvs, u = .dK kvs)
    (h : unlockS n S' = some S'') : H' a = some (.frz od u) ∧ Rep { F' with P := F.P } S'' (upd H' a u) ∧ Le F { F' with P := F.P } := by
  have pa : F'.P a = some (.frz od u) := by rw [le.p]; exact upd_same
  have h0 : H' a = some (.frz od u) := R.p _ _ pa
  have ga : F'.G a = none := by
    cases e : F'.G a with
    | none => rfl
    | some o =>
      rcases le.n a o e with q | q
      · have q' : F.G a = some o := q
        rw [hG] at q'
        cases q'
      · have q' : upd F.P a (.frz od u) a = none := q.2
        rw [upd_same] at q'
        cases q'
  have bb : F'.B = F.B := le.b
  have ha' : F'.lm[n]? = some a := prefix_get le.m ha
  have pq : ∀ b, b ≠ a → F'.P b = F.P b := fun b q => by
    rw [le.p]
    exact upd_ne q
  unfold unlockS at h
  split at h
  · rename_i ks ds hc
    obtain ⟨hall, h⟩ := of_ite h
    cases h
    have hlt := (List.getElem?_eq_some_iff.mp hc).1
    obtain ⟨⟨o, xs, hz, eP, rl⟩, _⟩ := R.cell n _ a hc ha'
    rw [pa] at eP
    cases eP
    have wk : Wk F' { F' with P := F.P } := ⟨rfl, Same.refl _, Same.refl _, List.prefix_refl _⟩
    have ne : ∀ {m : Nat} {c : Cell} {b : Addr}, S'[m]? = some c → c.live = true → F'.lm[m]? = some b → b ≠ a := fun {m c b} hm l hb q => by
      have := ((R.cell m c b hm hb).2 l).2.2
      rw [q, pa] at this
      cases this
    have rw_ : RelL { F' with P := F.P } ds xs := RelL.wk wk _ _ rl
    refine ⟨h0, ⟨fun b o e => ?_, fun b o e => ?_, fun b o e => ?_, fun b xs e => ?_, by rw [List.length_set]; exact R.len, fun m c b hm hb => ?_, fun m1 m2 c1 c2 b h1 h2 l1 l2 e1 e2 => ?_⟩, ⟨le.k, bb, rfl, le.g, fun b o e => ?_, le.m⟩⟩
    · rw [upd_ne fun q => by rw [q, ga] at e; cases e]
      exact R.g _ _ e
    · have e' : F'.B b = some o := e
      rw [upd_ne fun q => by rw [q, bb, hB] at e'; cases e']
      exact R.b _ _ e'
    · have e' : F.P b = some o := e
      have q : b ≠ a := fun q => by rw [q, hP] at e'; cases e'
      rw [upd_ne q]
      exact R.p _ _ (by rw [pq b q]; exact e')
    · by_cases q : b = a
      · rw [q, upd_same] at e
        exact absurd (Option.some.inj e) (hut xs)
      · rw [upd_ne q] at e
        exact R.tup _ _ e
    · by_cases q : m = n
      · subst q
        rw [List.getElem?_set_self hlt] at hm
        cases hm
        have hb' : F'.lm[m]? = some b := hb
        rw [ha'] at hb'
        cases hb'
        exact ⟨⟨xs, hz, upd_same, rw_⟩, fun _ => ⟨ga, by show F'.B a = none; rw [bb]; exact hB, hP⟩⟩
      · rw [List.getElem?_set_ne (fun z => q z.symm)] at hm
        obtain ⟨j1, j2⟩ := R.cell m c b hm hb
        have nl : notLok c = true := by
          have h3 : (S'.set n .gone)[m]? = some c := by rw [List.getElem?_set_ne (fun z => q z.symm)]; exact hm
          exact List.all_eq_true.mp hall c (List.mem_of_getElem? h3)
        refine ⟨?_, fun l => ⟨(j2 l).1, (j2 l).2.1, by
          show F.P b = none
          rw [← pq b (ne hm l hb)]
          exact (j2 l).2.2⟩⟩
        cases c with
        | lok ks ds => cases nl
        | lst xs =>
          obtain ⟨ys, e1, r1⟩ := j1
          exact ⟨ys, (upd_ne (ne hm rfl hb)).trans e1, RelL.wk wk _ _ r1⟩
        | dik ks ds =>
          obtain ⟨ys, z, e1, r1⟩ := j1
          exact ⟨ys, z, (upd_ne (ne hm rfl hb)).trans e1, RelL.wk wk _ _ r1⟩
        | dit ks ds =>
          obtain ⟨ys, z, e1, r1⟩ := j1
          exact ⟨ys, z, (upd_ne (ne hm rfl hb)).trans e1, RelL.wk wk _ _ r1⟩
        | ins C fs =>
          obtain ⟨dx, ys, e1, r1⟩ := j1
          exact ⟨dx, ys, (upd_ne (ne hm rfl hb)).trans e1, RelL.wk wk _ _ r1⟩
        | frz d => exact Rel.wk wk _ _ j1
        | dlf ks ds =>
          obtain ⟨es, e1, z, r1, r2, t⟩ := j1
          exact ⟨es, (upd_ne (ne hm rfl hb)).trans e1, z, RelL.wk wk _ _ r1, RelL.wk wk _ _ r2, t⟩
        | gone => trivial
    · have old : ∀ {m : Nat} {c : Cell} {b : Addr}, (S'.set n (.dik ks ds))[m]? = some c → c.live = true → m ≠ n → S'[m]? = some c := fun {m c b} hm l q => by
        rw [List.getElem?_set_ne (fun z => q z.symm)] at hm
        exact hm
      by_cases q1 : m1 = n
      · by_cases q2 : m2 = n
        · rw [q1, q2]
        · have e1' : F'.lm[m1]? = some b := e1
          rw [q1, ha'] at e1'
          cases e1'
          exact absurd rfl (ne (old (b := a) h2 l2 q2) l2 e2)
      · by_cases q2 : m2 = n
        · have e2' : F'.lm[m2]? = some b := e2
          rw [q2, ha'] at e2'
          cases e2'
          exact absurd rfl (ne (old (b := a) h1 l1 q1) l1 e1)
        · exact R.inj m1 m2 c1 c2 b (old (b := b) h1 l1 q1) (old (b := b) h2 l2 q2) l1 l2 e1 e2
    · have e' : F'.G b = some o := e
      rcases le.n b o e' with q | q
      · exact .inl q
      · have q3 : b ≠ a := fun z => by
          have q2 := q.2
          rw [z] at q2
          have q4 : upd F.P a _ a = none := q2
          rw [upd_same] at q4
          cases q4
        have q2 : upd F.P a _ b = none := q.2
        rw [upd_ne q3] at q2
        exact .inr ⟨q.1, q2⟩
  · cases h
def dForK (f : DE) (g : DG) (body : DS) : DS := fun ρ S => match f ρ S with
  | some (.loc n, _) => (match S[n]? with
    | some (.dik ks ds) => (match dFor (iKeyL f) g body ρ (S.set n (.lok ks ds)) with
      | some o => unlockO n o
      | none => none)
    | _ => none)
  | _ => none
theorem sd_forK {g : DG} {body : DS} (h : PS X st (tFor (rdI X.K (iKeyL f)) (rdG X.K g) (rdS X.K body))) : SD X st (dForK f g body) := .of (ps_lock h) fun F S H ρ σ oo D hk R rr hf hq => by
  unfold dForK at hf
  split at hf
  · rename_i n S1 h1
    split at hf
    · rename_i ks ds hc
      split at hf
      · rename_i o ho
        obtain ⟨a, ha, hcell, hfree⟩ := R.at hc
        obtain ⟨xs, hz, e, rl⟩ := hcell
        obtain ⟨ga, ba, pa⟩ := hfree rfl
        refine ⟨a, .dK (ks.zip xs), e, trivial, fun od => ?_⟩
        have RL := R.lock hc ha e od ⟨xs, hz, rfl, rl⟩
        have wk : Wk F { F with P := upd F.P a (.frz od (.dK (ks.zip xs))) } := ⟨rfl, Same.refl _, Same.refl _, List.prefix_refl _⟩
        refine for_go (F := { F with P := upd F.P a (.frz od (.dK (ks.zip xs))) }) hk RL (rr.wk wk) ho fun F' H' le R' => ?_
        have un : ∀ {S' S'' : Sto}, Rep F' S' H' → unlockS n S' = some S'' → H' a = some (.frz od (.dK (ks.zip xs))) ∧ Rep { F' with P := F.P } S'' (upd H' a (.dK (ks.zip xs))) ∧ Le F { F' with P := F.P } := fun {S' S''} R' hu => Rep.unlock ba ga pa (fun _ q => nomatch q) le R' ha ⟨_, rfl⟩ hu
        have wk2 : Wk F' { F' with P := F.P } := ⟨rfl, Same.refl _, Same.refl _, List.prefix_refl _⟩
        cases o with
        | nx ρ' S' =>
          unfold unlockO at hf
          simp only at hf
          split at hf
          · rename_i S'' hu
            cases hf
            obtain ⟨u1, u2, u3⟩ := un R' hu
            exact fun σ' r' => ⟨u1, hq _ _ u3 u2 σ' (r'.wk wk2)⟩
          · cases hf
        | rt d S' =>
          unfold unlockO at hf
          simp only at hf
          split at hf
          · rename_i S'' hu
            cases hf
            obtain ⟨u1, u2, u3⟩ := un R' hu
            exact fun v rv => ⟨u1, hq _ _ u3 u2 v (Rel.wk wk2 _ _ rv)⟩
          · cases hf
        | bk ρ' S' =>
          unfold unlockO at hf
          simp only at hf
          split at hf
          · rename_i S'' hu
            cases hf
            obtain ⟨u1, u2, u3⟩ := un R' hu
            exact fun σ' r' => ⟨u1, hq _ _ u3 u2 σ' (r'.wk wk2)⟩
          · cases hf
        | ct ρ' S' =>
          unfold unlockO at hf
          simp only at hf
          split at hf
          · rename_i S'' hu
            cases hf
            obtain ⟨u1, u2, u3⟩ := un R' hu
            exact fun σ' r' => ⟨u1, hq _ _ u3 u2 σ' (r'.wk wk2)⟩
          · cases hf
      · cases hf
    · cases hf
  · cases hf
end
end Dn

/-! names set by the places of a list -/
namespace Dn
open PySem PySem.Spec PyProof.Rows L2
section
variable {X : Cx} {e : Expr} {es : List Expr}
def gLstD (n : Nat) (h : DGs) : DG := fun d ρ S => match asL S d with
  | some ds => if ds.length = n then h ds ρ S else none
  | none => none
theorem gd_lst {n : Nat} {h : DGs} (h2 : GDs X es h) (hp : PG X e (gLst X.K n (rdGs X.K h))) : GD X e (gLstD n h) :=
  .of hp fun F S H ρ σ d v ρ' S' Q hk R rr rv hf hq => by
    unfold gLstD at hf
    split at hf
    · rename_i ds h3
      obtain ⟨hn, hf⟩ := of_ite hf
      obtain ⟨a, xs, rfl, hs, rl⟩ := asL_sq R rv h3
      exact ⟨a, xs, rfl, by rw [← hk]; exact hs, by rw [← rl.length]; exact hn, F, S, ρ, ds, ρ', S', hk, R, rr, rl, hf, hq⟩
    · cases hf
theorem gd_l {h : DGs} {k n : Nat} {pos : Pos} (hc : X.calm = true) (h2 : GDs X es h) (hn : (assignEach es X.env).length = n := by rfl) (hst : (assignEach es X.env).findIdx? (·.1) = none := by rfl) : GD X (.Tuple es k pos) (gLstD n h) := gd_lst h2 (pg_lst hc h2.pg hn hst)
end
end Dn

/-! sorted texts, comprehensions over a live dict, reversed ranges -/
namespace Dn
open PySem PySem.Spec PyProof.Rows L2
/-! ### texts in order -/
theorem lt_asym : ∀ a b : List Nat, ltCps a b = true → ltCps b a = false
  | [], [], h => by cases h
  | [], _ :: _, _ => rfl
  | _ :: _, [], h => by cases h
  | x :: a, y :: b, h => by
    unfold ltCps at h ⊢
    simp only [Bool.or_eq_true, decide_eq_true_eq, Bool.and_eq_true, beq_iff_eq] at h
    simp only [Bool.or_eq_false_iff, decide_eq_false_iff_not, Bool.and_eq_false_imp, beq_iff_eq]
    rcases h with h | ⟨h1, h2⟩
    · exact ⟨by omega, fun q => by omega⟩
    · exact ⟨by omega, fun _ => lt_asym a b h2⟩
theorem lt_eq : ∀ a b : List Nat, ltCps a b = false → ltCps b a = false → a = b
  | [], [], _, _ => rfl
  | [], _ :: _, h, _ => by cases h
  | _ :: _, [], _, h => by cases h
  | x :: a, y :: b, h, k => by
    unfold ltCps at h k
    simp only [Bool.or_eq_false_iff, decide_eq_false_iff_not, Bool.and_eq_false_imp, beq_iff_eq] at h k
    have e : x = y := by omega
    subst e
    rw [lt_eq a b (h.2 rfl) (k.2 rfl)]
theorem lt_trans : ∀ a b c : List Nat, ltCps b a = false → ltCps c b = false → ltCps c a = false
  | [], _, [], _, _ => rfl
  | [], [], _ :: _, _, _ => rfl
  | [], _ :: _, _ :: _, _, _ => rfl
  | _ :: _, [], _, h, _ => by cases h
  | _ :: _, _ :: _, [], _, h => by cases h
  | x :: a, y :: b, z :: c, h, k => by
    unfold ltCps at h k ⊢
    simp only [Bool.or_eq_false_iff, decide_eq_false_iff_not, Bool.and_eq_false_imp, beq_iff_eq] at h k ⊢
    refine ⟨by omega, fun q => ?_⟩
    exact lt_trans a b c (h.2 (by omega)) (k.2 (by omega))
def leS (a b : Str) : Bool := !ltCps b.cps.toList a.cps.toList
theorem leS_trans {a b c : Str} (h : leS a b = true) (k : leS b c = true) : leS a c = true := by
  unfold leS at *
  simp only [Bool.not_eq_true'] at *
  exact lt_trans _ _ _ h k
theorem leS_total (a b : Str) : (leS a b || leS b a) = true := by
  unfold leS
  cases h : ltCps b.cps.toList a.cps.toList with
  | false => rfl
  | true => rw [lt_asym _ _ h] <;> rfl
theorem str_ext {a b : Str} (h : a.cps.toList = b.cps.toList) : a = b := by
  cases a
  cases b
  congr 1
  exact Array.toList_inj.mp h
theorem leS_anti {a b : Str} (h : leS a b = true) (k : leS b a = true) : a = b := by
  unfold leS at *
  simp only [Bool.not_eq_true'] at *
  exact str_ext (lt_eq _ _ k h)
def ordS (l : List Str) : Prop := l.Pairwise fun a b => leS a b = true
theorem ord_uniq : ∀ {l m : List Str}, ordS l → ordS m → l.Perm m → l = m
  | [], m, _, _, p => (List.Perm.eq_nil p.symm).symm
  | x :: l, [], _, _, p => by cases p.length_eq
  | x :: l, y :: m, h, k, p => by
    have hx := List.pairwise_cons.mp h
    have ky := List.pairwise_cons.mp k
    have e : x = y := by
      have m1 : x ∈ y :: m := p.mem_iff.mp List.mem_cons_self
      have m2 : y ∈ x :: l := p.mem_iff.mpr List.mem_cons_self
      rcases List.mem_cons.mp m1 with e | m1
      · exact e
      · rcases List.mem_cons.mp m2 with e | m2
        · exact e.symm
        · exact leS_anti (hx.1 y m2) (ky.1 x m1)
    subst e
    rw [ord_uniq hx.2 ky.2 (List.Perm.cons_inv p)]
theorem ord_of_sorted : ∀ {l : List Str}, sortedS l = true → ordS l
  | [], _ => List.Pairwise.nil
  | [x], _ => List.pairwise_singleton _ _
  | x :: y :: l, h => by
    have h1 : (leS x y && risingS y l) = true := h
    rw [Bool.and_eq_true] at h1
    have ih : ordS (y :: l) := ord_of_sorted (l := y :: l) h1.2
    refine List.pairwise_cons.mpr ⟨fun z hz => ?_, ih⟩
    rcases List.mem_cons.mp hz with e | hz
    · rw [e]
      exact h1.1
    · exact leS_trans h1.1 ((List.pairwise_cons.mp ih).1 z hz)
def sortS (l : List Str) : List Str := l.mergeSort leS
theorem sortS_perm (l : List Str) : (sortS l).Perm l := List.mergeSort_perm l leS
theorem sortS_ord (l : List Str) : ordS (sortS l) := List.pairwise_mergeSort (le := leS) (fun a b c h k => leS_trans h k) (fun a b => leS_total a b) l
theorem sortS_uniq {l m : List Str} (p : m.Perm l) (h : sortedS m = true) : m = sortS l := ord_uniq (ord_of_sorted h) (sortS_ord l) (p.trans (sortS_perm l).symm)
/-! ### sorted -/
def keysS : List Key → Option (List Str)
  | [] => some []
  | .inr x :: ks => (match keysS ks with
    | some xs => some (x :: xs)
    | none => none)
  | _ => none
theorem keysS_ok : ∀ {ks : List Key} {xs : List Str}, keysS ks = some xs → ks = xs.map Sum.inr
  | [], xs, h => by
    cases (show some ([] : List Str) = some xs from h)
    rfl
  | .inr x :: ks, xs, h => by
    unfold keysS at h
    split at h
    · rename_i ys hy
      cases h
      rw [keysS_ok hy] <;> rfl
    · cases h
  | .inl i :: ks, xs, h => by cases h
def srt (S : Sto) (x : DV) : Option (List Str) := match asL S x with
  | some ds => (match strsD ds with
    | some xs => if xs.length < 64 then some (sortS xs) else none
    | none => none)
  | none => (match asK S x with
    | some (ks, _) => (match keysS ks with
      | some xs => if xs.length < 64 then some (sortS xs) else none
      | none => none)
    | none => none)
def pSorted : PL := fun xs S => match xs with
  | [x] => (match srt S x with
    | some ys => some (.lst .own (ys.map .str), S)
    | none => none)
  | _ => none
def pSortedM : PL := fun xs S => match xs with
  | [x] => (match srt S x with
    | some ys => some (.loc S.length, S ++ [.lst (ys.map .str)])
    | none => none)
  | _ => none
abbrev rSortedAll (K : PySem.W.Frag) : List V → Hp → VK → Prop := fun xs H Q => rSortedS K xs H Q ∨ (∃ (a : Addr) (kvs : List (Key × V)) (ks : List Str), xs = [.ref a] ∧ Rd H a (.dK kvs) ∧ kvs.map (·.1) = ks.map Sum.inr ∧ ks.length < 64 ∧
    ∀ ys p, ys.Perm ks → sortedS ys = true → H p = none → Q (.ref p) (upd H p (.lst (ys.map V.str))))
theorem call_sortedAll {X : Cx} (hc : X.calm = true) : CallR X (.builtin "sorted") (rSortedAll X.K) := cr_sortedS.or (call_sortedD hc)
theorem srt_go {K : PySem.W.Frag} {F : Fm} {S : Sto} {H : Hp} {x : DV} {v : V} {ys : List Str} {Q : VK} (hk : F.K = K) (R : Rep F S H) (rv : Rel F x v) (h : srt S x = some ys)
    (hq : ∀ p, H p = none → Q (.ref p) (upd H p (.lst (ys.map V.str)))) : rSortedAll K [v] H Q := by
  unfold srt at h
  split at h
  · rename_i ds hL
    split at h
    · rename_i xs hx
      obtain ⟨h64, e⟩ := of_ite h
      cases e
      obtain ⟨a, us, rfl, hs, rl⟩ := asL_sq R rv hL
      obtain rfl := strsD_ok rl hx
      rw [hk] at hs
      exact .inl ⟨a, xs, rfl, hs, h64, fun ys p hp ho hn => by
        rw [sortS_uniq hp ho]
        exact hq p hn⟩
    · cases h
  · split at h
    · rename_i ks ds hK
      split at h
      · rename_i xs hx
        obtain ⟨h64, e⟩ := of_ite h
        cases e
        obtain ⟨a, us, rfl, hz, hs, rl⟩ := asK_ok R rv hK
        have e := zip_keys (ks := ks) (us := us) (hz.trans rl.length)
        exact .inr ⟨a, _, xs, rfl, hs, by rw [e, keysS_ok hx], h64, fun ys p hp ho hn => by
          rw [sortS_uniq hp ho]
          exact hq p hn⟩
      · cases h
    · cases h
theorem ok_sorted {K : PySem.W.Frag} : OkL K pSorted (rSortedAll K) := fun F S H xs vs d S' Q hk R r hp hq => by
  unfold pSorted at hp
  split at hp
  · rename_i x
    obtain ⟨v, rfl, rv⟩ := one r
    split at hp
    · rename_i ys hy
      cases hp
      exact srt_go hk R rv hy (new_lst R (strs_rel ys) hq)
    · cases hp
  · cases hp
theorem ok_sortedM {K : PySem.W.Frag} : OkL K pSortedM (rSortedAll K) := fun F S H xs vs d S' Q hk R r hp hq => by
  unfold pSortedM at hp
  split at hp
  · rename_i x
    obtain ⟨v, rfl, rv⟩ := one r
    split at hp
    · rename_i ys hy
      cases hp
      exact srt_go hk R rv hy (new_lstM R (strs_rel ys) hq)
    · cases hp
  · cases hp
/-! ### an expression that walks a dict: it is locked meanwhile -/
section
variable {X : Cx} {e : Expr} {f g : DE}
def dLockE (f g : DE) : DE := fun ρ S => match f ρ S with
  | some (.loc n, _) => (match S[n]? with
    | some (.dik ks ds) => (match g ρ (S.set n (.lok ks ds)) with
      | some (d, S') => (match unlockS n S' with
        | some S'' => some (d, S'')
        | none => none)
      | none => none)
    | _ => none)
  | _ => none
theorem ed_lockE (h : ED X e g) : ED X e (dLockE f g) := .of (pe_lock h.pe) fun F S H ρ σ d S0 Q hk R rr hf hq => by
  unfold dLockE at hf
  split at hf
  · rename_i n S1 h1
    split at hf
    · rename_i ks ds hc
      split at hf
      · rename_i d' S' ho
        split at hf
        · rename_i S2 hu
          have hf := Option.some.inj hf
          have hd : d' = d := congrArg Prod.fst hf
          have hs : S2 = S0 := congrArg Prod.snd hf
          subst hd hs
          obtain ⟨a, ha, hcell, hfree⟩ := R.at hc
          obtain ⟨xs, hz, e, rl⟩ := hcell
          obtain ⟨ga, ba, pa⟩ := hfree rfl
          refine ⟨a, .dK (ks.zip xs), e, trivial, fun od => ?_⟩
          have RL := R.lock hc ha e od ⟨xs, hz, rfl, rl⟩
          have wk : Wk F { F with P := upd F.P a (.frz od (.dK (ks.zip xs))) } := ⟨rfl, Same.refl _, Same.refl _, List.prefix_refl _⟩
          refine ⟨{ F with P := upd F.P a (.frz od (.dK (ks.zip xs))) }, S.set n (.lok ks ds), ρ, d', S', hk, RL, rr.wk wk, ho, fun F' H' v le R' rv => ?_⟩
          obtain ⟨u1, u2, u3⟩ : H' a = some (.frz od (.dK (ks.zip xs))) ∧ Rep { F' with P := F.P } S2 (upd H' a (.dK (ks.zip xs))) ∧ Le F { F' with P := F.P } := Rep.unlock ba ga pa (fun _ q => nomatch q) le R' ha ⟨_, rfl⟩ hu
          have wk2 : Wk F' { F' with P := F.P } := ⟨rfl, Same.refl _, Same.refl _, List.prefix_refl _⟩
          exact ⟨u1, hq _ _ _ u3 u2 (Rel.wk wk2 _ _ rv)⟩
        · cases hf
      · cases hf
    · cases hf
  · cases hf
end
/-! ### a statement that walks a dict -/
section
variable {X : Cx} {st : Stmt} {f : DE} {s : DS}
def dLockS (f : DE) (s : DS) : DS := fun ρ S => match f ρ S with
  | some (.loc n, _) => (match S[n]? with
    | some (.dik ks ds) => (match s ρ (S.set n (.lok ks ds)) with
      | some o => unlockO n o
      | none => none)
    | _ => none)
  | _ => none
theorem sd_lockS (h : SD X st s) : SD X st (dLockS f s) := .of (ps_lock h.ps) fun F S H ρ σ oo D hk R rr hf hq => by
  unfold dLockS at hf
  split at hf
  · rename_i n S1 h1
    split at hf
    · rename_i ks ds hc
      split at hf
      · rename_i o ho
        obtain ⟨a, ha, hcell, hfree⟩ := R.at hc
        obtain ⟨xs, hz, e, rl⟩ := hcell
        obtain ⟨ga, ba, pa⟩ := hfree rfl
        refine ⟨a, .dK (ks.zip xs), e, trivial, fun od => ?_⟩
        have RL := R.lock hc ha e od ⟨xs, hz, rfl, rl⟩
        have wk : Wk F { F with P := upd F.P a (.frz od (.dK (ks.zip xs))) } := ⟨rfl, Same.refl _, Same.refl _, List.prefix_refl _⟩
        refine ⟨{ F with P := upd F.P a (.frz od (.dK (ks.zip xs))) }, S.set n (.lok ks ds), ρ, o, hk, RL, rr.wk wk, ho, fun F' H' le R' => ?_⟩
        have un : ∀ {S' S'' : Sto}, Rep F' S' H' → unlockS n S' = some S'' → H' a = some (.frz od (.dK (ks.zip xs))) ∧ Rep { F' with P := F.P } S'' (upd H' a (.dK (ks.zip xs))) ∧ Le F { F' with P := F.P } := fun {S' S''} R' hu => Rep.unlock ba ga pa (fun _ q => nomatch q) le R' ha ⟨_, rfl⟩ hu
        have wk2 : Wk F' { F' with P := F.P } := ⟨rfl, Same.refl _, Same.refl _, List.prefix_refl _⟩
        cases o with
        | nx ρ' S' =>
          unfold unlockO at hf
          simp only at hf
          split at hf
          · rename_i S'' hu
            cases hf
            obtain ⟨u1, u2, u3⟩ := un R' hu
            exact fun σ' r' => ⟨u1, hq _ _ u3 u2 σ' (r'.wk wk2)⟩
          · cases hf
        | rt d S' =>
          unfold unlockO at hf
          simp only at hf
          split at hf
          · rename_i S'' hu
            cases hf
            obtain ⟨u1, u2, u3⟩ := un R' hu
            exact fun v rv => ⟨u1, hq _ _ u3 u2 v (Rel.wk wk2 _ _ rv)⟩
          · cases hf
        | bk ρ' S' =>
          unfold unlockO at hf
          simp only at hf
          split at hf
          · rename_i S'' hu
            cases hf
            obtain ⟨u1, u2, u3⟩ := un R' hu
            exact fun σ' r' => ⟨u1, hq _ _ u3 u2 σ' (r'.wk wk2)⟩
          · cases hf
        | ct ρ' S' =>
          unfold unlockO at hf
          simp only at hf
          split at hf
          · rename_i S'' hu
            cases hf
            obtain ⟨u1, u2, u3⟩ := un R' hu
            exact fun σ' r' => ⟨u1, hq _ _ u3 u2 σ' (r'.wk wk2)⟩
          · cases hf
      · cases hf
    · cases hf
  · cases hf
end
/-! ### reversed(range(n)), range(i, j, c), text.index(sign) -/
section
variable {X : Cx} {e : Expr} {f g : DE} {fa : DA}
def iRev1 (f : DE) : DI := fun ρ S => match f ρ S with
  | some (.int j, S1) => if j.natAbs < 4611686018427387904 then some ((List.range j.toNat).map fun (i : Nat) => .int ((0 + ((j - 0).toNat : Nat) - 1 : Int) + (i : Nat) * (-1)), S1) else none
  | _ => none
theorem id_rev1 {tg : Expr} (ha : ED X a f) (h : ∀ {t : TE}, PE X a t → PI X tg e (iRevR (tRg1 t))) : ID X tg e (iRev1 f) :=
  .of (h ha.pe) fun F S H ρ σ ds S' Q hk R rr hf hq => by
    unfold iRev1 at hf
    split at hf
    · rename_i j S1 h1
      obtain ⟨hb, hf⟩ := of_ite hf
      cases hf
      refine rdE.go hk R rr h1 fun F1 H1 v le hk1 R1 r1 rv => ?_
      obtain rfl := (show v = .int j from rv)
      refine ⟨j, rfl, by omega, by omega, by omega, by omega, hq _ F1 H1 le R1 ?_⟩
      have := walks_rangeC (F := F1) (lo := 0 + ((j - 0).toNat : Nat) - 1) (c := -1) (n := (j - 0).toNat)
      rw [Int.sub_zero] at this ⊢
      exact this
    · cases hf
def iRange3 (f : DA) : DI := fun ρ S => match f ρ S with
  | some ([.int i, .int j, .int c], S1) => if c ≠ 0 ∧ c.natAbs < 1073741824 ∧ Builtin.Range.small i j c = true ∧ Builtin.Range.rangeSize i j c = ((Builtin.Range.rangeSize i j c).toNat : Int) then some ((List.range (Builtin.Range.rangeSize i j c).toNat).map fun (k : Nat) => .int (i + (k : Nat) * c), S1) else none
  | _ => none
theorem id_range3 {tg : Expr} {es : List Expr} (ha : AD X es fa) (h : ∀ {t : TA}, PA X es t → PI X tg e (iRng3 t)) : ID X tg e (iRange3 fa) :=
  .of (h ha.pa) fun F S H ρ σ ds S' Q hk R rr hf hq => by
    unfold iRange3 at hf
    split at hf
    · rename_i i j c S1 h1
      obtain ⟨⟨c0, c1, c2, c3⟩, hf⟩ := of_ite hf
      cases hf
      refine rdA.go hk R rr h1 fun F1 H1 vs le hk1 R1 r1 rl => ?_
      obtain ⟨v, us, rfl, rv, rl⟩ := rl
      obtain ⟨u, w, rfl, ru, rw⟩ := two rl
      obtain rfl := (show v = .int i from rv)
      obtain rfl := (show u = .int j from ru)
      obtain rfl := (show w = .int c from rw)
      exact ⟨i, j, c, _, rfl, ⟨c0, c1, c2, c3⟩, hq _ F1 H1 le R1 walks_rangeC⟩
    · cases hf
def pSIdx : Str → DV → Sto → Option (DV × Sto) := fun a y S => match y with
  | .str b => (match Builtin.Str.occurrences a b 0 a.length 1 with
    | i :: _ => some (.int (i : Nat), S)
    | [] => none)
  | _ => none
theorem ok_sidx (F : Fm) (S : Sto) (H : Hp) (x : Str) (y : DV) (vy : V) (d : DV) (S' : Sto) (Q : VK) (R : Rep F S H) (ry : Rel F y vy) (hp : pSIdx x y S = some (d, S')) (hq : PostE F S' d Q) :
    ∃ a b i rest, V.str x = .str a ∧ [vy] = [.str b] ∧ Builtin.Str.occurrences a b 0 a.length 1 = i :: rest ∧ Q (.int (i : Nat)) H := by
  unfold pSIdx at hp
  split at hp
  · rename_i b
    split at hp
    · rename_i i rest ho
      cases hp
      obtain rfl := (show vy = .str b from ry)
      exact ⟨x, b, i, rest, rfl, rfl, ho, hq F H _ (.refl F) R rfl⟩
    · cases hp
  · cases hp
end
end Dn

/-! dicts with keys (number, truth) -/
namespace Dn
open PySem PySem.Spec PyProof.Rows L2

theorem lf_entry (P P' : Program) (w w' : World) (k : Int × Bool) (q : Addr) (v : Value) :
    entryOfKey (tupleKind (leafKind P w)) (lfK k, q, v) = entryOfKey (tupleKind (leafKind P' w')) (lfK k, q, v) := rfl
theorem lfK_inj {j k : Int × Bool} (h : lfK j = lfK k) : j = k := by
  obtain ⟨i, b⟩ := j
  obtain ⟨i', b'⟩ := k
  unfold lfK at h
  simp only [List.cons.injEq, Leaf.num.injEq, and_true] at h
  obtain ⟨rfl, h2⟩ := h
  cases b <;> cases b' <;> simp at h2 ⊢
/-- at a stands a dict with these entries, their keys' tuples are known -/
def LfAt (H : Hp) (a : Addr) (es : List LfE) : Prop :=
  H a = some (.ext (DLf a (es.map LfE.raw))) ∧ ∀ e ∈ es, H e.2.1 = some (.tup [.int e.1.1, .bl e.1.2]) ∧ RelV e.2.2.1 e.2.2.2
def lfFind (es : List LfE) (k : Int × Bool) : Option LfE := es.find? fun e => decide (e.1 = k)
def lfPut (es : List LfE) (k : Int × Bool) (b : Addr) (v : V) (u : Value) : List LfE :=
  if (lfFind es k).isSome = true then es.map fun e => if e.1 = k then (e.1, e.2.1, v, u) else e else es ++ [(k, b, v, u)]
section
variable {P : Program} {w : World} {H : Hp} {h : Heap} {a b : Addr}
theorem lf_is {k : Int × Bool} (ok : HOk P w H h) (e : H b = some (.tup [.int k.1, .bl k.2])) : (tupleKind (leafKind P w)).is h (lfK k) b := by
  obtain ⟨_, its, r, o, h1, h2, n, h3⟩ := (show ObjOk P w H h b (.tup [.int k.1, .bl k.2]) from ok b _ e)
  cases r with
  | cons r1 r =>
    cases r with
    | cons r2 r =>
      cases r
      obtain ⟨t, rfl⟩ := r1
      have e2 := (show _ = Value.bool k.2 from r2)
      subst e2
      refine ⟨o, _, n, h1, h2, h3, ?_⟩
      refine .cons (show Leaf.isOf (.num k.1) (.int k.1 t) = true from decide_eq_true rfl) (.cons ?_ .nil)
      obtain ⟨i, b⟩ := k
      cases b <;> rfl
theorem lf_raw_keys {es : List LfE} : (es.map LfE.raw).map (·.1) = (es.map (·.1)).map lfK := by
  rw [List.map_map, List.map_map]
  rfl
theorem lf_at {es : List LfE} (ok : HOk P w H h) (L : LfAt H a es) : (a == sysModules) = false ∧ es.length ≤ sizeLine ∧ h.DictOfH (tupleKind (leafKind P w)) a (es.map LfE.raw) := by
  obtain ⟨⟨h1, h2, h3, o, es', ep, h4, h5, h6, h7⟩, _⟩ := (show ObjOk P w H h a (.ext _) from ok a _ L.1)
  rw [List.length_map] at h2
  refine ⟨h1, h2, o, es', ep, h4, h5, h6, h7 P w, fun x hx => ?_, h3⟩
  obtain ⟨e, he, rfl⟩ := List.mem_map.mp hx
  exact lf_is ok (L.2 e he).1
theorem lf_key {es : List LfE} {k : Int × Bool} : atKey (es.map LfE.raw) (lfK k) = (lfFind es k).map fun e => (e.2.1, e.2.2.2) := by
  unfold atKey lfFind
  induction es with
  | nil => rfl
  | cons e es ih =>
    rw [List.map_cons, List.find?_cons, List.find?_cons]
    have q : decide (e.raw.1 = lfK k) = decide (e.1 = k) := by
      by_cases z : e.1 = k
      · rw [decide_eq_true z]
        exact decide_eq_true (congrArg lfK z)
      · rw [decide_eq_false z]
        exact decide_eq_false fun y => z (lfK_inj y)
    rw [q]
    cases decide (e.1 = k)
    · exact ih
    · rfl
theorem lf_stored {es : List LfE} {k : Int × Bool} {v : V} {u : Value} : storedH (es.map LfE.raw) (lfK k) b u = (lfPut es k b v u).map LfE.raw := by
  unfold storedH lfPut
  rw [lf_key, Option.isSome_map]
  by_cases z : (lfFind es k).isSome = true
  · rw [if_pos z, if_pos z, List.map_map, List.map_map]
    refine List.map_congr_left fun e _ => ?_
    show putAt (lfK k) u e.raw = LfE.raw (if e.1 = k then _ else _)
    unfold putAt
    by_cases y : e.1 = k
    · rw [if_pos y, if_pos (show e.raw.1 = lfK k from congrArg lfK y)]
      rfl
    · rw [if_neg y, if_neg (show ¬ e.raw.1 = lfK k from fun q => y (lfK_inj q))]
  · rw [if_neg z, if_neg z, List.map_append]
    rfl
theorem lf_ext {es : List LfE} (hs : (a == sysModules) = false) (hl : es.length ≤ sizeLine) (hd : h.DictOfH (tupleKind (leafKind P w)) a (es.map LfE.raw)) : ObjOk P w H h a (.ext (DLf a (es.map LfE.raw))) := by
  obtain ⟨o, es', ep, h4, h5, h6, h7, _, h3⟩ := hd
  refine ⟨⟨hs, by rw [List.length_map]; exact hl, h3, o, es', ep, h4, h5, h6, fun P' w' => ?_⟩, ⟨o, h4⟩, fun h1 h2 ⟨p1, p2, p3, o2, e2, ep2, q1, q2⟩ k => ⟨p1, p2, p3, o2, e2, ep2, k o2 q1, q2⟩⟩
  rw [h7, List.map_map, List.map_map]
  exact List.map_congr_left fun e _ => lf_entry P P' w w' e.1 e.2.1 e.2.2.2
end
section
variable {X : Cx}
/-- k in d -/
abbrev rLfIn (neg : Bool) : R2 := fun y x H Q => ∃ a es k b, x = .ref a ∧ LfAt H a es ∧ y = .ref b ∧ H b = some (.tup [.int k.1, .bl k.2]) ∧ Q (.bl (if neg then !(lfFind es k).isSome else (lfFind es k).isSome)) H
theorem op_lfIn (hu : X.A.units + 1 < cLine) : OpR X (compareOp .In) (rLfIn false) := by
  intro pins s σ H y x u v Q I ry rx h
  obtain ⟨a, es, k, b, rfl, L, rfl, hb, q⟩ := h
  cases rx
  cases ry
  obtain ⟨z1, z2, dd⟩ := lf_at I.hok L
  refine wpAny_in_heap (tupleKind_room_in1 hu) (lf_is I.hok hb) z1 dd ?_
  rw [lf_key, Option.isSome_map]
  exact ⟨.bl (lfFind es k).isSome, H, I.tok _, rfl, q⟩
theorem op_lfNotIn (hu : X.A.units + 1 < cLine) : OpR X (compareOp .NotIn) (rLfIn true) := by
  intro pins s σ H y x u v Q I ry rx h
  obtain ⟨a, es, k, b, rfl, L, rfl, hb, q⟩ := h
  cases rx
  cases ry
  obtain ⟨z1, z2, dd⟩ := lf_at I.hok L
  refine wpAny_notIn_heap (tupleKind_room_in1 hu) (lf_is I.hok hb) z1 dd ?_
  rw [lf_key, Option.isSome_map]
  exact ⟨.bl (!(lfFind es k).isSome), H, I.tok _, rfl, q⟩
/-- d[k] -/
abbrev rLfIx : R2 := fun x y H Q => ∃ a es k b e, x = .ref a ∧ LfAt H a es ∧ y = .ref b ∧ H b = some (.tup [.int k.1, .bl k.2]) ∧ lfFind es k = some e ∧ Q e.2.2.1 H
theorem ix_lf (hu : X.A.units + 1 < cLine) : IxR X rLfIx := by
  intro vl sl pins s σ H x y v u Q I rx ry h hs
  obtain ⟨a, es, k, b, e, rfl, L, rfl, hb, hf, q⟩ := h
  cases rx
  cases ry
  obtain ⟨z1, z2, dd⟩ := lf_at I.hok L
  have hT : s.TypeIs (.ref a) "dict" := by
    obtain ⟨o, _, _, ho, hx, _⟩ := dd
    exact ⟨o, ho, hx.1⟩
  have he : e ∈ es := List.mem_of_find?_eq_some hf
  have got : wpAny (model X.prog X.w) X.A (getItem (.ref a) (.ref b)) (EP X pins σ Q) X.xe s := by
    refine wpAny_getItem_heap (p := (e.2.1, e.2.2.2)) (tupleKind_room_in1 hu) (lf_is I.hok hb) dd (by rw [lf_key, hf]; rfl) ?_
    exact ⟨e.2.2.1, H, I.tok _, (L.2 e he).2, q⟩
  unfold subscriptTail
  refine wpAny_bind ?_
  rw [getitemInPython_of_ne hT.not_modules]
  refine wpAny_bind (wpAny_specialOf hT PySem.F.slot_dict_getitem.lookup ?_)
  have whole : wpAny (model X.prog X.w) X.A (subscripted sl false (.ref a) (.ref b)) (fun r s₃ => wpAny (model X.prog X.w) X.A (letTemporaryGo vl (.ref a) r >>= fun _ => pure r) (EP X pins σ Q) X.xe s₃) X.xe s := by
    rw [hs]
    exact wpAny_operating (wpAny_mono got (fun r s₃ z => wpAny_bind (wpAny_letTemporaryGo (wpAny_pure z))) fun _ _ z => z)
  first
    | exact wpAny_pure (wpAny_bind whole)
    | exact wpAny_bind (wpAny_pure (wpAny_bind whole))
    | exact wpAny_bind whole
/-- d[k] = v -/
def rLfSet : V → V → V → Hp → (Hp → Prop) → Prop := fun o i v H Q => ∃ a es k b, o = .ref a ∧ LfAt H a es ∧ i = .ref b ∧ H b = some (.tup [.int k.1, .bl k.2]) ∧ es.length < sizeLine ∧
  ∀ u, RelV v u → Q (upd H a (.ext (DLf a ((lfPut es k b v u).map LfE.raw))))
theorem lfPut_len {es : List LfE} {k : Int × Bool} {b : Addr} {v : V} {u : Value} : (lfPut es k b v u).length ≤ es.length + 1 := by
  unfold lfPut
  split
  · rw [List.length_map]
    omega
  · rw [List.length_append]
    exact Nat.le_refl _
theorem set_lf (hu : X.A.units + 1 < cLine) : PSet X rLfSet := fun pins s σ H o i v ov iv u Q I ro ri rv h => by
  obtain ⟨a, es, k, b, rfl, L, rfl, hb, hl, q⟩ := h
  cases ro
  cases ri
  obtain ⟨z1, z2, dd⟩ := lf_at I.hok L
  have hz : (es.map LfE.raw).length ≤ sizeLine := by
    rw [List.length_map]
    exact z2
  refine wpAny_setItem_heap (hsz := hz) (tupleKind_room_in1 hu) (lf_is I.hok hb) dd fun h' dd' hs => ?_
  rw [lf_stored (v := v)] at dd'
  have he : ∃ z, h'.get? a = some z := let ⟨z, _, _, y, _⟩ := dd'; ⟨z, y⟩
  have hl2 := lfPut_len (es := es) (k := k) (b := b) (v := v) (u := u)
  exact ⟨_, d_write I (by rw [L.1]; trivial) hs he (lf_ext z1 (by omega) dd'), q u rv⟩
/-- {} -/
def tLfNew : TE := fun _ H Q => ∀ p, H p = none → Q (.ref p) (upd H p (.ext (DLf p [])))
theorem pe_lfNew {pos : Pos} : PE X (.Dict [] [] pos) tLfNew := ⟨fun pins s σ H Q I h => by
  have big : (s.heap.objs.size == sysModules) = false := beq_eq_false_iff_ne.mpr (Ne.symm (Nat.ne_of_lt I.big))
  have new : ObjOk X.prog X.w (upd H s.heap.objs.size (.ext (DLf s.heap.objs.size []))) (s.heap.push { cls := .type "dict", data := .dict #[] }) s.heap.objs.size (.ext (DLf s.heap.objs.size [])) :=
    lf_ext (es := []) big (Nat.zero_le _) ⟨_, #[], 0, Heap.get?_push_size _ rfl, ⟨rfl, rfl, rfl⟩, rfl, rfl, (fun x hx => nomatch hx), List.nodup_nil⟩
  exact wpAny_Dict_empty ⟨.ref s.heap.objs.size, _, I.laid (a := s.heap.objs.size) (t' := s.toks) (fun _ _ z => Heap.get?_push_of_some _ z) (Nat.le_refl _) new, rfl, h _ (I.hok.fresh (Nat.le_refl _))⟩⟩
/-- list(d) -/
def rLfList : List V → Hp → VK → Prop := fun xs H Q => ∃ a es, xs = [.ref a] ∧ LfAt H a es ∧ ∀ l, H l = none → Q (.ref l) (upd H l (.lst (es.map fun e => V.ref e.2.1)))
theorem refs_vals : ∀ es : List LfE, Vals (es.map fun e => V.ref e.2.1) (es.map fun e => Value.ref e.2.1)
  | [] => .nil
  | e :: es => .cons rfl (refs_vals es)
theorem call_lfList (hc : X.calm = true) : CallR X (.type "list") rLfList := by
  intro pins s σ H xs us Q I r h
  obtain ⟨a, es, rfl, L, q⟩ := h
  obtain ⟨u, rfl, rx⟩ := vals1 r
  cases rx
  obtain ⟨z1, z2, o, ds, ep, ho, hx, hd, he, _, _⟩ := lf_at I.hok L
  have hz : ds.size = es.length := by
    have := size_of_entries he
    rw [List.length_map] at this
    exact this
  refine PySem.W.kdl_call (KdlSrc.rawDict (es := ds) (ep := ep) z1) (I.ok.hd hc) ⟨o, ho, hx, hd⟩ (by rw [hz]; exact z2) fun h' tk acc c hk hS hacc => ?_
  have hv : acc.toList = es.map fun e => Value.ref e.2.1 := by
    refine items_out (Pv := fun i v => ∃ hi : i < ds.size, v = ds[i].key) (by rw [List.length_map, ← hz]; exact hacc) fun j v hjv => ?_
    obtain ⟨hi, rfl⟩ := hjv
    have e1 := entry_at he j
    rw [Array.getElem?_eq_getElem hi, List.getElem?_map] at e1
    have hj : j < es.length := by omega
    rw [List.getElem?_map, List.getElem?_eq_getElem hj]
    rw [List.getElem?_eq_getElem hj] at e1
    have e2 := Option.some.inj e1
    show some (Value.ref es[j].2.1) = some ds[j].key
    rw [e2]
    rfl
  have hget : h'.get? s.heap.objs.size = some { cls := .type "list", data := .seq (es.map fun e => Value.ref e.2.1).toArray c } := by
    rw [hS, ← hv]
  exact ⟨.ref s.heap.objs.size, _, I.laid (t' := tk) hk (Nat.le_refl _) (show ObjOk X.prog X.w _ h' _ (.lst _) from ⟨by rw [List.length_map]; exact z2, _, c, refs_vals es, hget⟩), rfl, q _ (I.hok.fresh (Nat.le_refl _))⟩
end

/-! ### over the store -/
def lfOf (S : Sto) : DV → Option (List (Int × Bool) × List DV)
  | .loc n => (match S[n]? with
    | some (.dlf ks ds) => some (ks, ds)
    | _ => none)
  | _ => none
def lfKey : DV → Option (Int × Bool)
  | .tup [.int i, .bl b] => some (i, b)
  | _ => none
section
variable {F : Fm} {S : Sto} {H : Hp}
theorem lfOf_ok {d : DV} {v : V} {ks : List (Int × Bool)} {ds : List DV} (R : Rep F S H) (r : Rel F d v) (h : lfOf S d = some (ks, ds)) :
    ∃ (a : Addr) (es : List LfE), v = .ref a ∧ LfAt H a es ∧ es.map (·.1) = ks ∧ RelL F (ks.map lfD) (es.map fun e => V.ref e.2.1) ∧ RelL F ds (es.map (·.2.2.1)) := by
  unfold lfOf at h
  split at h
  · rename_i n
    split at h
    · rename_i ks' ds' hc
      cases h
      obtain ⟨a, ha, rfl⟩ := r
      obtain ⟨⟨es, e1, e2, r1, r2, t⟩, _⟩ := R.cell n _ a hc ha
      refine ⟨a, es, rfl, ⟨e1, fun e he => ⟨?_, t e he⟩⟩, e2, r1, r2⟩
      have key : ∀ (l : List LfE), RelL F ((l.map (·.1)).map lfD) (l.map fun e => V.ref e.2.1) → ∀ e ∈ l, H e.2.1 = some (.tup [.int e.1.1, .bl e.1.2]) := by
        intro l
        induction l with
        | nil => intro _ e he; cases he
        | cons x l ih =>
          intro rl e he
          obtain ⟨v0, vr, e0, q1, q2⟩ := rl
          rw [List.map_cons] at e0
          cases e0
          rcases List.mem_cons.mp he with z | z
          · subst z
            obtain ⟨b, xs, eb, eg, rb⟩ := q1
            cases eb
            obtain ⟨u1, us, rfl, t1, t2⟩ := rb
            obtain ⟨u2, us2, rfl, t3, t4⟩ := t2
            cases (show u1 = .int e.1.1 from t1)
            cases (show u2 = .bl e.1.2 from t3)
            cases (show us2 = [] from t4)
            exact R.g _ _ eg
          · exact ih q2 e z
      rw [← e2] at r1
      exact key es r1 e he
    · cases h
  · cases h
theorem lfKey_ok {d : DV} {v : V} {k : Int × Bool} (R : Rep F S H) (r : Rel F d v) (h : lfKey d = some k) : d = lfD k ∧ ∃ b, v = .ref b ∧ H b = some (.tup [.int k.1, .bl k.2]) := by
  unfold lfKey at h
  split at h
  · cases h
    refine ⟨rfl, ?_⟩
    obtain ⟨b, xs, rfl, eg, rb⟩ := r
    obtain ⟨u1, us, rfl, t1, t2⟩ := rb
    obtain ⟨u2, us2, rfl, t3, t4⟩ := t2
    cases (show u1 = .int _ from t1)
    cases (show u2 = .bl _ from t3)
    cases (show us2 = [] from t4)
    exact ⟨b, rfl, R.g _ _ eg⟩
  · cases h
theorem lf_find {k : Int × Bool} : ∀ {es : List LfE} {ds : List DV}, RelL F ds (es.map (·.2.2.1)) →
    (lfFind es k).isSome = hasK (es.map (·.1)) k ∧ ∀ d, lkD (es.map (·.1)) ds k = some d → ∃ e, lfFind es k = some e ∧ Rel F d e.2.2.1
  | [], ds, r => ⟨rfl, fun d h => by unfold lkD at h; cases h⟩
  | e :: es, [], r => by
    have e0 : (e :: es).map (·.2.2.1) = [] := r
    cases e0
  | e :: es, d0 :: ds, r => by
    obtain ⟨v0, vr, e0, q1, q2⟩ := r
    rw [List.map_cons] at e0
    cases e0
    obtain ⟨i1, i2⟩ := lf_find (k := k) q2
    unfold lfFind hasK at i1 ⊢
    rw [List.find?_cons, List.map_cons, List.any_cons]
    by_cases z : e.1 = k
    · rw [decide_eq_true z]
      refine ⟨rfl, fun d h => ?_⟩
      unfold lkD at h
      rw [if_pos z] at h
      cases h
      exact ⟨e, rfl, q1⟩
    · rw [decide_eq_false z, Bool.false_or]
      refine ⟨i1, fun d h => ?_⟩
      unfold lkD at h
      rw [if_neg z] at h
      exact i2 d h
end
def pLfIn (neg : Bool) : P2 := fun x y S => match lfOf S y with
  | some (ks, _) => (match lfKey x with
    | some k => some (.bl (if neg then !hasK ks k else hasK ks k), S)
    | none => none)
  | none => none
def pLfIx : P2 := fun x y S => match lfOf S x with
  | some (ks, ds) => (match lfKey y with
    | some k => (match lkD ks ds k with
      | some d => some (d, S)
      | none => none)
    | none => none)
  | none => none
theorem ok_lfIn {K : PySem.W.Frag} {neg : Bool} : Ok2 K (pLfIn neg) (rLfIn neg) := fun F S H x y vx vy d S' Q hk R rx ry hp hq => by
  unfold pLfIn at hp
  split at hp
  · rename_i ks ds hO
    split at hp
    · rename_i k hK
      cases hp
      obtain ⟨a, es, rfl, L, e2, _, r2⟩ := lfOf_ok R ry hO
      obtain ⟨_, b, rfl, hb⟩ := lfKey_ok R rx hK
      refine ⟨a, es, k, b, rfl, L, rfl, hb, ?_⟩
      rw [(lf_find (k := k) r2).1, e2]
      exact hq F H _ (.refl F) R rfl
    · cases hp
  · cases hp
theorem ok_lfIx {K : PySem.W.Frag} : Ok2 K pLfIx rLfIx := fun F S H x y vx vy d S' Q hk R rx ry hp hq => by
  unfold pLfIx at hp
  split at hp
  · rename_i ks ds hO
    split at hp
    · rename_i k hK
      split at hp
      · rename_i d0 hd
        cases hp
        obtain ⟨a, es, rfl, L, e2, _, r2⟩ := lfOf_ok R rx hO
        obtain ⟨_, b, rfl, hb⟩ := lfKey_ok R ry hK
        subst e2
        obtain ⟨e, he, rd⟩ := (lf_find (k := k) r2).2 _ hd
        exact ⟨a, es, k, b, e, rfl, L, rfl, hb, he, hq F H _ (.refl F) R rd⟩
      · cases hp
    · cases hp
  · cases hp
def lfSetI (x i y : DV) (S : Sto) : Option Sto := match x with
  | .loc n => (match S[n]? with
    | some (.dlf ks ds) => (match lfKey i with
      | some k => if ks.length < sizeLine then some (S.set n (.dlf (putKs ks k) (putVs ks ds k y))) else none
      | none => none)
    | _ => none)
  | _ => none
def dLfSub (v o i : DE) : DS := fun ρ S => match v ρ S with
  | some (y, S1) => (match o ρ S1 with
    | some (x, S2) => (match i ρ S2 with
      | some (k, S3) => (match lfSetI x k y S3 with
        | some S4 => some (.nx ρ S4)
        | none => none)
      | none => none)
    | none => none)
  | none => none
theorem lf_putK {es : List LfE} {k : Int × Bool} {b : Addr} {v : V} {u : Value} : (lfPut es k b v u).map (·.1) = putKs (es.map (·.1)) k := by
  have hh : hasK (es.map (·.1)) k = (lfFind es k).isSome := by
    unfold hasK lfFind
    rw [List.any_map, Bool.eq_iff_iff, List.find?_isSome]
    simp
  unfold lfPut putKs
  rw [hh]
  by_cases z : (lfFind es k).isSome = true
  · rw [if_pos z, if_pos z, List.map_map]
    refine List.map_congr_left fun e _ => ?_
    show (if e.1 = k then _ else e).1 = e.1
    split <;> rfl
  · rw [if_neg z, if_neg z, List.map_append]
    rfl
theorem lf_putR {F : Fm} {k : Int × Bool} {b : Addr} {v : V} {u : Value} {y : DV} (ry : Rel F y v) (rk : Rel F (lfD k) (.ref b)) {es : List LfE} {ds : List DV} (r1 : RelL F ((es.map (·.1)).map lfD) (es.map fun e => V.ref e.2.1)) (r2 : RelL F ds (es.map (·.2.2.1))) :
    RelL F (((lfPut es k b v u).map (·.1)).map lfD) ((lfPut es k b v u).map fun e => V.ref e.2.1) ∧ RelL F (putVs (es.map (·.1)) ds k y) ((lfPut es k b v u).map (·.2.2.1)) := by
  have hh : hasK (es.map (·.1)) k = (lfFind es k).isSome := by
    unfold hasK lfFind
    rw [List.any_map, Bool.eq_iff_iff, List.find?_isSome]
    simp
  unfold lfPut putVs
  rw [hh]
  by_cases z : (lfFind es k).isSome = true
  · rw [if_pos z, if_pos z]
    constructor
    · have e1 : (es.map fun e => if e.1 = k then (e.1, e.2.1, v, u) else e).map (·.1) = es.map (·.1) := by
        rw [List.map_map]
        refine List.map_congr_left fun e _ => ?_
        show (if e.1 = k then _ else e).1 = e.1
        split <;> rfl
      have e2 : ((es.map fun e => if e.1 = k then (e.1, e.2.1, v, u) else e).map fun e => V.ref e.2.1) = es.map fun e => V.ref e.2.1 := by
        rw [List.map_map]
        refine List.map_congr_left fun e _ => ?_
        show V.ref (if e.1 = k then _ else e).2.1 = V.ref e.2.1
        split <;> rfl
      rw [e1, e2]
      exact r1
    · have e3 : (es.map fun e => if e.1 = k then (e.1, e.2.1, v, u) else e).map (·.2.2.1) = rpG k v (es.map (·.1)) (es.map (·.2.2.1)) := by
        clear r1 r2 hh z
        induction es with
        | nil => rfl
        | cons e es ih =>
          rw [List.map_cons, List.map_cons, List.map_cons, List.map_cons, ih]
          show _ = (if e.1 = k then v else e.2.2.1) :: rpG k v (es.map (·.1)) (es.map (·.2.2.1))
          by_cases y : e.1 = k
          · rw [if_pos y, if_pos y]
          · rw [if_neg y, if_neg y]
      rw [e3]
      exact rp_rel ry r2
  · rw [if_neg z, if_neg z]
    refine ⟨?_, ?_⟩
    · rw [List.map_append, List.map_append, List.map_append]
      exact r1.append (rel1 rk)
    · rw [List.map_append]
      exact r2.append (rel1 ry)
section
variable {X : Cx} {e a b : Expr} {f g : DE} {pos : Pos} {st : Stmt}
theorem sd_lfSub {v : DE} (h : PS X st (tAsg (rdE X.K v) (L2.gSub (rdE X.K f) (rdE X.K g) rLfSet))) : SD X st (dLfSub v f g) := .of h fun F S H ρ σ o D hk R rr hf hq => by
  unfold dLfSub at hf
  split at hf
  · rename_i y S1 h1
    split at hf
    · rename_i x S2 h2
      split at hf
      · rename_i k S3 h3
        split at hf
        · rename_i S4 h4
          cases hf
          refine rdE.go hk R rr h1 fun F1 H1 vy le1 hk1 R1 r1 ry => rdE.go hk1 R1 r1 h2 fun F2 H2 vx le2 hk2 R2 r2 rx => rdE.go hk2 R2 r2 h3 fun F3 H3 vk le3 hk3 R3 r3 rk => ?_
          unfold lfSetI at h4
          split at h4
          · rename_i n
            split at h4
            · rename_i ks ds hc
              split at h4
              · rename_i j hj
                obtain ⟨hl, h4⟩ := of_ite h4
                cases h4
                have hO : lfOf S3 (.loc n) = some (ks, ds) := by
                  unfold lfOf
                  simp only [hc]
                have rx3 := rx.le le3
                obtain ⟨p, es, rfl, L, e2, q1, q2⟩ := lfOf_ok R3 rx3 hO
                obtain ⟨ek, c, rfl, hcK⟩ := lfKey_ok R3 rk hj
                obtain ⟨p', hp', ep⟩ := rx3
                cases ep
                subst e2
                rw [List.length_map] at hl
                refine ⟨p, es, j, c, rfl, L, rfl, hcK, hl, fun u ru => ?_⟩
                rw [ek] at rk
                have ry3 := ry.le (le2.trans le3)
                obtain ⟨w1, w2⟩ := lf_putR (u := u) ry3 rk q1 q2
                refine hq F3 _ ((le1.trans le2).trans le3) ?_ σ r3
                refine R3.write hc rfl hp' (fun _ q => nomatch q) rfl ⟨lfPut es j c _ u, upd_same, lf_putK, by rw [← lf_putK (b := c) (v := vy) (u := u)]; exact w1, w2, fun e0 he0 => ?_⟩
                unfold lfPut at he0
                split at he0
                · obtain ⟨e1, he1, rfl⟩ := List.mem_map.mp he0
                  by_cases z : e1.1 = j
                  · rw [if_pos z]
                    exact ru
                  · rw [if_neg z]
                    exact (L.2 e1 he1).2
                · rcases List.mem_append.mp he0 with z | z
                  · exact (L.2 e0 z).2
                  · rw [List.mem_singleton.mp z]
                    exact ru
              · cases h4
            · cases h4
          · cases h4
        · cases hf
      · cases hf
    · cases hf
  · cases hf
theorem ed_lfIn {k : Nat} (hr : Room k X.A) (ha : ED X a f) (hb : ED X b g) (hm : behindInMarks .In b = false) : ED X (.Compare a [.In] [b] pos) (dBin (pLfIn false) f g) := ed_cmp (op_lfIn (hu1 hr)) ok_lfIn ha hb hm
theorem ed_lfNotIn {k : Nat} (hr : Room k X.A) (ha : ED X a f) (hb : ED X b g) (hm : behindInMarks .NotIn b = false) : ED X (.Compare a [.NotIn] [b] pos) (dBin (pLfIn true) f g) := ed_cmp (op_lfNotIn (hu1 hr)) ok_lfIn ha hb hm
theorem ed_lfIx {k : Nat} (hr : Room k X.A) (ha : ED X a f) (hb : ED X b g) (hs : PlainIx b) : ED X (.Subscript a b pos) (dBin pLfIx f g) := .of (pe_ix (ix_lf (hu1 hr)) ha.pe hb.pe hs) fun F S H ρ σ d S' Q hk R rr hf hq => by
  unfold dBin at hf
  split at hf
  · rename_i x S1 h1
    split at hf
    · rename_i y S2 h2
      exact rdE.go hk R rr h1 fun F1 H1 vx le1 hk1 R1 r1 rx => rdE.go hk1 R1 r1 h2 fun F2 H2 vy le2 hk2 R2 r2 ry =>
        ok_lfIx F2 S2 H2 x y vx vy d S' Q hk2 R2 (rx.le le2) ry hf fun F3 H3 v le R' rv => hq F3 H3 v ((le1.trans le2).trans le) R' rv
    · cases hf
  · cases hf
def dLfNew : DE := fun _ S => some (.loc S.length, S ++ [.dlf [] []])
theorem ed_lfNew : ED X (.Dict [] [] pos) dLfNew :=
  .of pe_lfNew fun F S H ρ σ d S' Q hk R rr hf hq p hp => by
    cases (show some (DV.loc S.length, S ++ [Cell.dlf [] []]) = some (d, S') from hf)
    have R' := R.alloc (o := .ext (DLf p [])) (c := .dlf [] []) hp (fun _ q => nomatch q) ⟨[], upd_same, rfl, rfl, rfl, fun e he => nomatch he⟩
    exact hq _ _ _ (F.cell_le p) R' ⟨p, by rw [← R.len]; exact get_len _ _, rfl⟩
/-- list(d), a new list that will be changed -/
def pLfList : PL := fun xs S => match xs with
  | [x] => (match lfOf S x with
    | some (ks, _) => some (.loc S.length, S ++ [.lst (ks.map lfD)])
    | none => none)
  | _ => none
theorem ok_lfList {K : PySem.W.Frag} : OkL K pLfList rLfList := fun F S H xs vs d S' Q hk R r hp hq => by
  unfold pLfList at hp
  split at hp
  · rename_i x
    obtain ⟨v, rfl, rv⟩ := one r
    split at hp
    · rename_i ks ds hO
      cases hp
      obtain ⟨a, es, rfl, L, e2, q1, q2⟩ := lfOf_ok R rv hO
      exact ⟨a, es, rfl, L, new_lstM R q1 hq⟩
    · cases hp
  · cases hp
end
end Dn

/-! tables of the module with text keys; {(i, b): v} -/
namespace Dn
open PySem PySem.Spec PyProof.Rows L2

/-! ### tables -/
def tabF (kvs : List (Str × He.Dv)) (z : Str) : Option He.Dv := (kvs.find? fun q => q.1 == z).map (·.2)
/-- the table at d: what stands at each text -/
structure TabC (K : PySem.W.Frag) (w : World) (mg : Str → Option Value) (x : Str) (kvs : List (Str × He.Dv)) : Prop where
  mg_ : mg x = some (.ref (He.ga K x))
  kd : ∃ es n, KDict K w (He.ga K x) es n
  yes : ∀ z v, tabF kvs z = some v → ∃ u, PySem.W.nsIn K (He.ga K x) z = some (some u) ∧ RelV (v.v K) u
  no : ∀ z, tabF kvs z = none → PySem.W.nsIn K (He.ga K x) z = some none
  ok : (kvs.map (·.2)).all dvOk = true
theorem dicW_at {K : PySem.W.Frag} {w : World} {a : Addr} {ks : List Str} (h : He.dicW K a = some (He.keysIn w.params ks)) : ∃ es n, KDict K w a es n ∧ es.toList.map He.keyOf = He.keysIn w.params ks := by
  obtain ⟨es, n, D⟩ := He.dicW_ok h
  refine ⟨es, n, D, ?_⟩
  unfold He.dicW at h
  rw [D.at_] at h
  simp only [D.low] at h
  exact Option.some.inj h
theorem keys_no {P : Params} {z : Str} : ∀ {l : List DictEntry} {ks : List Str}, l.map He.keyOf = He.keysIn P ks → z ∉ ks → l.find? (·.key.isStr z) = none ∧ l.any (·.refKey) = false
  | [], ks, _, _ => ⟨rfl, rfl⟩
  | e :: l, [], h, _ => by cases h
  | e :: l, k :: ks, h, hz => by
    have h1 : He.keyOf e :: l.map He.keyOf = some (k, PyData.keyHash P k) :: He.keysIn P ks := h
    injection h1 with h2 h3
    obtain ⟨i1, i2⟩ := keys_no h3 fun q => hz (List.mem_cons_of_mem _ q)
    have hk : ∃ t, e.key = .str k t := by
      unfold He.keyOf at h2
      split at h2
      · rename_i x t q
        have h4 := Option.some.inj h2
        obtain ⟨h5, _⟩ := Prod.mk.inj h4
        exact ⟨t, by rw [q, h5]⟩
      · cases h2
    obtain ⟨t, hk⟩ := hk
    have ne : (k == z) = false := beq_eq_false_iff_ne.mpr fun q => hz (by rw [← q]; exact List.mem_cons_self)
    constructor
    · rw [List.find?_cons]
      have : e.key.isStr z = false := by
        rw [hk]
        exact ne
      rw [this]
      exact i1
    · rw [List.any_cons, i2]
      have : e.refKey = false := by
        unfold DictEntry.refKey
        rw [hk]
      rw [this] <;> rfl
theorem tab_of {K : PySem.W.Frag} {w : World} {mg : Str → Option Value} {x : Str} {kvs : List (Str × He.Dv)} (hm : mg x = some (.ref (He.ga K x))) (h : He.dicW K (He.ga K x) = some (He.keysIn w.params (kvs.map (·.1)))) (hv : He.valsB K (He.ga K x) kvs = true)
    (ho : (kvs.map (·.2)).all dvOk = true := by decide) : TabC K w mg x kvs := by
  obtain ⟨es, n, D, hk⟩ := dicW_at h
  refine ⟨hm, ⟨es, n, D⟩, fun z v hz => ?_, fun z hz => ?_, ho⟩
  · unfold tabF at hz
    obtain ⟨q, hq, rfl⟩ := Option.map_eq_some_iff.mp hz
    obtain ⟨u, h1, h2⟩ := He.valsB_ok hv (List.mem_of_find?_eq_some hq)
    have e : q.1 = z := by
      have := List.find?_some hq
      simpa using this
    rw [e] at h1
    exact ⟨u, h1, h2⟩
  · unfold tabF at hz
    have hz' : z ∉ kvs.map (·.1) := fun q => by
      obtain ⟨p, hp, rfl⟩ := List.mem_map.mp q
      have h1 : kvs.find? (fun q => q.1 == p.1) = none := by
        cases h0 : kvs.find? (fun q => q.1 == p.1) with
        | none => rfl
        | some y => rw [h0] at hz; cases hz
      have := List.find?_eq_none.mp h1 p hp
      simp at this
    obtain ⟨i1, i2⟩ := keys_no hk hz'
    unfold PySem.W.nsIn
    rw [D.at_]
    simp only [i1, i2]
    rfl
def dTabIn (neg : Bool) (kvs : List (Str × He.Dv)) (f : DE) : DE := fun ρ S => match f ρ S with
  | some (.str z, S1) => some (.bl (if neg then !(tabF kvs z).isSome else (tabF kvs z).isSome), S1)
  | _ => none
def dTabIx (kvs : List (Str × He.Dv)) (f : DE) : DE := fun ρ S => match f ρ S with
  | some (.str z, S1) => (match tabF kvs z with
    | some v => some (dvD v, S1)
    | none => none)
  | _ => none
theorem ix_kd {X : Cx} {d : Addr} {es : Array DictEntry} {n : Nat} (D : KDict X.K X.w d es n) : IxR X (fun x y H Q => ∃ (z : Str) (u0 : Value) (v0 : V), x = .ref d ∧ y = .str z ∧ PySem.W.nsIn X.K d z = some (some u0) ∧ RelV v0 u0 ∧ Q v0 H) := by
  intro vl sl pins s σ H x y v u Q I rx ry h hs
  have got := op_item_kd D pins s σ H x y v u Q I rx ry h
  obtain ⟨z, u0, v0, rfl, rfl, _⟩ := h
  cases rx
  have hT := kd_type D I
  unfold subscriptTail
  refine wpAny_bind ?_
  rw [getitemInPython_of_ne hT.not_modules]
  refine wpAny_bind (wpAny_specialOf hT PySem.F.slot_dict_getitem.lookup ?_)
  have whole : wpAny (model X.prog X.w) X.A (subscripted sl false (.ref d) u) (fun r s₃ => wpAny (model X.prog X.w) X.A (letTemporaryGo vl (.ref d) r >>= fun _ => pure r) (EP X pins σ Q) X.xe s₃) X.xe s := by
    rw [hs]
    exact wpAny_operating (wpAny_mono got (fun r s₃ z => wpAny_bind (wpAny_letTemporaryGo (wpAny_pure z))) fun _ _ z => z)
  first
    | exact wpAny_pure (wpAny_bind whole)
    | exact wpAny_bind (wpAny_pure (wpAny_bind whole))
    | exact wpAny_bind whole
theorem dvD_v {K : PySem.W.Frag} {F : Fm} {v : He.Dv} (h : dvOk v = true) : Rel F (dvD v) (v.v K) := by
  cases v <;> first | exact rfl | cases h
section
variable {X : Cx} {e a b : Expr} {f g : DE} {pos p1 : Pos} {x : Str} {kvs : List (Str × He.Dv)}
theorem tab_isSome {K : PySem.W.Frag} {w : World} {mg : Str → Option Value} (T : TabC K w mg x kvs) (z : Str) : ∃ r, PySem.W.nsIn K (He.ga K x) z = some r ∧ r.isSome = (tabF kvs z).isSome := by
  cases h : tabF kvs z with
  | none => exact ⟨none, T.no z h, rfl⟩
  | some v =>
    obtain ⟨u, h1, _⟩ := T.yes z v h
    exact ⟨some u, h1, rfl⟩
theorem tabIn_go {neg : Bool} {K : PySem.W.Frag} {w : World} {mg : Str → Option Value} (T : TabC K w mg x kvs) {F : Fm} {S : Sto} {H : Hp} {ρ : Ev} {σ : L2.St} {d : DV} {S' : Sto} {Q : V → Hp → Prop} (hk : F.K = K) (R : Rep F S H) (rr : RelE F ρ σ) (hf : dTabIn neg kvs f ρ S = some (d, S')) (hq : PostE F S' d Q) :
    rdE K f σ H fun vx H1 => ∃ (z : Str) (r : Option Value), vx = .str z ∧ (V.ref (He.ga K x)) = .ref (He.ga K x) ∧ PySem.W.nsIn K (He.ga K x) z = some r ∧ Q (.bl (if neg then !r.isSome else r.isSome)) H1 := by
  unfold dTabIn at hf
  split at hf
  · rename_i z S1 h1
    cases hf
    refine rdE.go hk R rr h1 fun F1 H1 vx le1 hk1 R1 r1 rx => ?_
    obtain ⟨r, hr1, hr2⟩ := tab_isSome T z
    refine ⟨z, r, rx, rfl, hr1, ?_⟩
    rw [hr2]
    exact hq F1 H1 _ le1 R1 rfl
  · cases hf
theorem ed_tabIn (T : TabC X.K X.w X.mg x kvs) (hg : Gl X x) (ha : ED X a f) (hm : behindInMarks .In (.Name x p1) = false) (hd : (x == ("__debug__" : Str)) = false := by decide) : ED X (.Compare a [.In] [.Name x p1] pos) (dTabIn false kvs f) := by
  obtain ⟨es, n, D⟩ := T.kd
  exact .of (pe_cmpR (op_in_kd D) ha.pe (pe_glob (v := .ref (He.ga X.K x)) hg T.mg_ rfl hd) hm) fun F S H ρ σ d S' Q hk R rr hf hq => tabIn_go T hk R rr hf hq
theorem td_tabIn (T : TabC X.K X.w X.mg x kvs) (hg : Gl X x) (ha : ED X a f) (hm : behindInMarks .In (.Name x p1) = false) (hd : (x == ("__debug__" : Str)) = false := by decide) : TD X (.Compare a [.In] [.Name x p1] pos) (dTabIn false kvs f) := by
  obtain ⟨es, n, D⟩ := T.kd
  exact .of (pt_cmpR (op_in_kd D) ha.pe (pe_glob (v := .ref (He.ga X.K x)) hg T.mg_ rfl hd) hm) fun F S H ρ σ d S' Q hk R rr hf hq => tabIn_go (Q := fun v H' => ∃ k, v = .bl k ∧ Q k H') T hk R rr hf fun F' H' v le R' rv => ⟨d, rv, hq F' H' le R'⟩
theorem ed_tabIx (T : TabC X.K X.w X.mg x kvs) (hg : Gl X x) (hb : ED X b f) (hs : PlainIx b) (hd : (x == ("__debug__" : Str)) = false := by decide) : ED X (.Subscript (.Name x p1) b pos) (dTabIx kvs f) := by
  obtain ⟨es, n, D⟩ := T.kd
  refine .of (pe_ix (ix_kd D) (pe_glob (v := .ref (He.ga X.K x)) hg T.mg_ rfl hd) hb.pe hs) fun F S H ρ σ d S' Q hk R rr hf hq => ?_
  unfold dTabIx at hf
  split at hf
  · rename_i z S1 h1
    split at hf
    · rename_i v hv
      cases hf
      refine rdE.go hk R rr h1 fun F1 H1 vx le1 hk1 R1 r1 rx => ?_
      obtain ⟨u, q1, q2⟩ := T.yes z v hv
      refine ⟨z, u, v.v X.K, rfl, rx, q1, q2, hq F1 H1 _ le1 R1 (dvD_v ?_)⟩
      unfold tabF at hv
      obtain ⟨q, hq', rfl⟩ := Option.map_eq_some_iff.mp hv
      exact List.all_eq_true.mp T.ok _ (List.mem_map.mpr ⟨q, List.mem_of_find?_eq_some hq', rfl⟩)
    · cases hf
  · cases hf
end
/-! ### the head, with tables -/
abbrev AlY : Type := He.AlT × Bool
def obsY (n : Nat) (fa : List He.Fa) (fn : List He.DefD) (ts : List He.Tab) (ex : PySem.W.Frag → Bool) (g : Addr → Option Obj) : AlY := (He.obsT fa fn ts (He.frG g (He.asD g n)), ex (He.frG g (He.asD g n)))
def hookY (n : Nat) (fa : List He.Fa) (fn : List He.DefD) (ts : List He.Tab) (ex : PySem.W.Frag → Bool) : PySem.W.Hook where
  α := AlY
  obs := fun s => obsY n fa fn ts ex s.heap.get?
  val := fun w => (He.valT fn ts w, true)
  says := fun w h => ∃ K : PySem.W.Frag, K.In h ∧ He.SaysT fa fn ts w K ∧ ex K = true
  of := fun _ _ e => ⟨_, He.frG_in, congrArg Prod.fst e, congrArg Prod.snd e⟩
  keeps := fun _ _ _ ⟨K, hK, c⟩ k => ⟨K, PySem.W.Frag.In.keeps hK k, c⟩
theorem obsY_eq {n : Nat} {fa : List He.Fa} {fn : List He.DefD} {ts : List He.Tab} {ex : PySem.W.Frag → Bool} {g : Addr → Option Obj} {s : Shared} (h : ∀ a, g a = s.heap.get? a) : obsY n fa fn ts ex g = (hookY n fa fn ts ex).obs s := by
  have e : g = s.heap.get? := funext h
  rw [e] <;> rfl
structure FactsT (fa : List He.Fa) (fn : List He.DefD) (ts : List He.Tab) (ex : PySem.W.Frag → Bool) (w : World) (K : PySem.W.Frag) (mg : Str → Option Value) : Prop extends Facts fa fn ex K mg where
  t : He.SaysT fa fn ts w K
theorem says_tab {fa : List He.Fa} {fn : List He.DefD} {ts : List He.Tab} {w : World} {K : PySem.W.Frag} (c : He.SaysT fa fn ts w K) (i : Nat) {t : He.Tab} (h : ts[i]? = some t := by rfl) : He.dicW K (t.1 K) = some (He.keysIn w.params t.2) := by
  have e : ts.map (fun t => He.dicW K (t.1 K)) = ts.map fun t => some (He.keysIn w.params t.2) := congrArg (fun z : He.AlT => z.2) c
  have e2 : (ts.map fun t => He.dicW K (t.1 K))[i]? = (ts.map fun t => some (He.keysIn w.params t.2))[i]? := by rw [e]
  rw [List.getElem?_map, List.getElem?_map, h] at e2
  exact Option.some.inj e2
/-! ### {(i, b): v} -/
def tLfOne (tk tv : TE) : TE := fun σ H Q => ∀ p, H p = none → tk σ (upd H p (.ext (DLf p []))) fun x H1 => tv σ H1 fun y H2 => ∃ (k : Int × Bool) (b : Addr), x = .ref b ∧ H2 b = some (.tup [.int k.1, .bl k.2]) ∧ H2 p = some (.ext (DLf p [])) ∧
  ∀ u, RelV y u → Q (.ref p) (upd H2 p (.ext (DLf p [LfE.raw (k, b, y, u)])))
section
variable {X : Cx} {k v : Expr} {tk tv : TE} {pos : Pos} {f g : DE}
theorem pe_lfOne (hu : X.A.units + 1 < cLine) (hk : PE X k tk) (hv : PE X v tv) : PE X (.Dict [some k] [v] pos) (tLfOne tk tv) := by
  refine ⟨fun pins s σ H Q I q => ?_⟩
  have big : (s.heap.objs.size == sysModules) = false := beq_eq_false_iff_ne.mpr (Ne.symm (Nat.ne_of_lt I.big))
  have hn := I.hok.fresh (Nat.le_refl s.heap.objs.size)
  have new : ObjOk X.prog X.w (upd H s.heap.objs.size (.ext (DLf s.heap.objs.size []))) (s.heap.push { cls := .type "dict", data := .dict #[] }) s.heap.objs.size (.ext (DLf s.heap.objs.size [])) :=
    lf_ext (es := []) big (Nat.zero_le _) ⟨_, #[], 0, Heap.get?_push_size _ rfl, ⟨rfl, rfl, rfl⟩, rfl, rfl, (fun x hx => nomatch hx), List.nodup_nil⟩
  have I1 := I.laid (a := s.heap.objs.size) (h' := s.heap.push { cls := .type "dict", data := .dict #[] }) (t' := s.toks) (fun _ _ q => Heap.get?_push_of_some _ q) (Nat.le_refl _) new
  have hz := zip_pairTrees [some k] [v] X.env pos rfl rfl
  rw [arm_eval_Dict, hz, dictDisplay_pairs _ (fun z => by cases z) (by rw [pairTrees_length [some k] [v] X.env pos rfl rfl]; show 1 < 17; omega)]
  refine wpAny_bind (wpAny_standAt (wpAny_bind (wpAny_subDictH (knd := tupleKind (leafKind X.prog X.w)) (show (tupleKind (leafKind X.prog X.w)).room X.A from by show X.A.units < cLine; omega) (by rw [pairTrees_length [some k] [v] X.env pos rfl rfl]; show 1 ≤ 15; omega)
    (pairTrees_cons_walk (thn (hk.run pins _ σ _ _ I1 (q _ hn)) fun kv s1 ⟨x, H1, I1', rx, q1⟩ => thn (hv.run pins s1 σ H1 _ I1' q1) fun vv s2 ⟨y, H2, I2, ry, kk, b, ex, hb, hp, q2⟩ => pairTrees_nil_walk ?_)))))
  subst ex
  cases rx
  obtain ⟨z1, z2, dd⟩ := lf_at (es := []) I2.hok ⟨hp, fun e he => nomatch he⟩
  refine ⟨[LfE.raw (kk, b, y, vv)], ⟨rfl, rfl, lf_is I2.hok hb, trivial⟩, dd, fun h' tkk dd' hs => wpAny_pure ⟨.ref s.heap.objs.size, _, ?_, rfl, q2 vv ry⟩⟩
  have he : ∃ z, h'.get? s.heap.objs.size = some z := let ⟨z, _, _, y, _⟩ := dd'; ⟨z, y⟩
  exact d_write I2 (by rw [hp]; trivial) hs he (lf_ext (es := [(kk, b, y, vv)]) big (by rw [sizeLine_eq]; show 1 ≤ _; omega) dd')
def dLfOne (f g : DE) : DE := fun ρ S => match f ρ (S ++ [.dlf [] []]) with
  | some (x, S1) => (match g ρ S1 with
    | some (y, S2) => (match S2[S.length]?, lfKey x with
      | some (.dlf [] []), some k => some (.loc S.length, S2.set S.length (.dlf [k] [y]))
      | _, _ => none)
    | none => none)
  | none => none
theorem ed_lfOne {m : Nat} (hr : Room m X.A) (hk : ED X k f) (hv : ED X v g) : ED X (.Dict [some k] [v] pos) (dLfOne f g) :=
  .of (pe_lfOne (hu1 hr) hk.pe hv.pe) fun F S H ρ σ d S' Q hkK R rr hf hq p hp => by
    unfold dLfOne at hf
    split at hf
    · rename_i x S1 h1
      split at hf
      · rename_i y S2 h2
        split at hf
        · rename_i kk hc hkk
          cases hf
          have R' := R.alloc (o := .ext (DLf p [])) (c := .dlf [] []) hp (fun _ q => nomatch q) ⟨[], upd_same, rfl, rfl, rfl, fun e he => nomatch he⟩
          have le := F.cell_le p
          have hat : (F.cell p).lm[S.length]? = some p := by rw [← R.len]; exact get_len _ _
          refine rdE.go (F := F.cell p) hkK R' (rr.le le) h1 fun F1 H1 vx le1 hk1 R1 r1 rx => rdE.go hk1 R1 r1 h2 fun F2 H2 vy le2 hk2 R2 r2 ry => ?_
          have ha2 : F2.lm[S.length]? = some p := prefix_get (le1.trans le2).m hat
          obtain ⟨⟨es, e1, e2, q1, q2, t⟩, _⟩ := R2.cell _ _ p hc ha2
          have e0 : es = [] := List.map_eq_nil_iff.mp e2
          subst e0
          obtain ⟨ek, b, rfl, hb⟩ := lfKey_ok R2 (rx.le le2) hkk
          have rk := rx.le le2
          rw [ek] at rk
          refine ⟨kk, b, rfl, hb, e1, fun u ru => ?_⟩
          exact hq F2 _ _ ((le.trans le1).trans le2) (R2.write hc rfl ha2 (fun _ q => nomatch q) rfl ⟨[(kk, b, vy, u)], upd_same, rfl, rel1 rk, rel1 ry, fun e he => by rw [List.mem_singleton.mp he]; exact ru⟩) ⟨p, ha2, rfl⟩
        · cases hf
      · cases hf
    · cases hf
end
end Dn

/-! sorted(set(xs)), len(set(xs)) -/
namespace Dn
open PySem PySem.Spec PyProof.Rows L2

/-! ### a set of numbers and texts whose table can be walked -/
def fso (w : World) : Obj := { cls := .type "set", dict := none, data := .set #[] 0 (.fresh 0 0 (!w.params.followText "set-order")) }
structure KSe (P : Program) (w : World) (L : List (Key × Value)) (es : Array (Int × Value)) (t : SetTable) : Prop where
  perm : es.toList.Perm (L.map fun p => ((mixKind P w).hash p.1, p.2))
  is : ∀ p ∈ L, (mixKind P w).is p.1 p.2 = true ∧ p.2.scannable = true
  nd : (L.map (·.1)).Nodup
  few : L.length < scanBound
  fits : t.fits es.size = true
  ris : Ris t.place.toList
  led : w.params.followText "set-order" = true ∨ t.led = true
def KS (P : Program) (w : World) (h : Heap) (a : Addr) (L : List (Key × Value)) : Prop := ∃ o es ep t, h.get? a = some o ∧ o.ExactSet ∧ o.data = .set es ep t ∧ KSe P w L es t
section
variable {P : Program} {w : World} {L : List (Key × Value)} {es : Array (Int × Value)} {t : SetTable}
theorem KSe.size (K : KSe P w L es t) : es.size = L.length := by
  rw [← Array.length_toList, K.perm.length_eq, List.length_map]
theorem KSe.elems (K : KSe P w L es t) : ElemsOf (mixKind P w) es.toList := fun e he => by
  obtain ⟨p, hp, rfl⟩ := List.mem_map.mp (K.perm.mem_iff.mp he)
  obtain ⟨i1, i2⟩ := K.is p hp
  exact ⟨⟨p.1, i1, rfl⟩, i2⟩
theorem KS.at {h h' : Heap} {a : Addr} (R : KS P w h a L) (k : ∀ o, h.get? a = some o → h'.get? a = some o) : KS P w h' a L := by
  obtain ⟨o, es, ep, t, ho, r⟩ := R
  exact ⟨o, es, ep, t, k o ho, r⟩
theorem ks_new {h : Heap} {a : Addr} (ho : h.get? a = some (fso w)) : KS P w h a [] :=
  ⟨_, #[], 0, .fresh 0 0 (!w.params.followText "set-order"), ho, ⟨rfl, rfl, rfl⟩, rfl, ⟨List.Perm.refl _, (fun p hp => nomatch hp), List.nodup_nil, (by decide), (by rfl), List.Pairwise.nil, by
    show _ ∨ (!w.params.followText "set-order") = true
    cases w.params.followText "set-order"
    · exact .inr rfl
    · exact .inl rfl⟩⟩
end
section
variable {P : Program} {w : World} {A : Around} {E : Value → Shared → Prop} {s : Shared} {a : Addr}
theorem ks_tail {L : List (Key × Value)} {gv : Bool → Sem Unit} (hg : ∀ (b : Bool) (s₁ : Shared) (Q' : Unit → Shared → Prop), Q' () s₁ → wpAny (model P w) A (gv b) Q' E s₁)
    {o : Obj} {es es1 : Array (Int × Value)} {ep : Nat} {t t2 : SetTable} (at0 : s.heap.get? a = some o) (ex0 : o.ExactSet) (dat0 : o.data = .set es ep t) (K : KSe P w L es1 t2) {dm : Bool} {R : Option Bool → Shared → Prop}
    (done : ∀ h', Heap.SameBut a s.heap h' → KS P w h' a L → R (some true) { s with heap := h' }) :
    wpAny (model P w) A (do
        storeSet a es1 t2
        if (!dm && t2.tooFull) = true then do
            gv (relayAll t2 es1 (SetTable.grown es1.size)).2.2
            storeSet a (relayAll t2 es1 (SetTable.grown es1.size)).1 (relayAll t2 es1 (SetTable.grown es1.size)).2.1
            pure (some true)
          else pure (some true)) R E s := by
  have fw : es1.size < scanBound := by rw [K.size]; exact K.few
  refine wpAny_bind (wpAny_storeSet_of at0 dat0 ?_ (fits_of_scanBound fw))
  have at1 := L2.store_at (es' := es1) (t' := t2) at0 dat0
  have same1 := Heap.SameBut.update s.heap a (Obj.putSet es1 t2)
  by_cases c : (!dm && t2.tooFull) = true
  · rw [if_pos c]
    have r1 := relayAll_perm t2 es1 (SetTable.grown es1.size)
    have r2 := relayAll_fits t2 es1 (SetTable.grown es1.size)
    have r3 := relayAll_ris t2 es1 (SetTable.grown es1.size)
    have r4 := relayAll_led t2 es1 (SetTable.grown es1.size)
    revert r1 r2 r3 r4
    generalize relayAll t2 es1 (SetTable.grown es1.size) = Z
    obtain ⟨e9, t9, g9⟩ := Z
    intro r1 r2 r3 r4
    dsimp only at r1 r2 r3 r4 ⊢
    have K9 : KSe P w L e9 t9 := ⟨r1.trans K.perm, K.is, K.nd, K.few, r2, r3, K.led.imp id fun z => by rw [r4]; exact z⟩
    refine wpAny_bind (hg _ _ _ (wpAny_bind (wpAny_storeSet_of at1 rfl ?_ (fits_of_scanBound (by rw [K9.size]; exact K9.few)))))
    exact wpAny_pure (done _ (same1.trans (Heap.SameBut.update _ a _)) ⟨_, e9, _, t9, L2.store_at (es' := e9) (t' := t9) at1 rfl, ex0, rfl, K9⟩)
  · rw [if_neg c]
    exact wpAny_pure (done _ same1 ⟨_, es1, _, t2, at1, ex0, rfl, K⟩)
theorem ks_add {L : List (Key × Value)} {k : Key} {v : Value} {Q : Bool → Shared → Prop} (hk : (mixKind P w).is k v = true) (hsc : v.scannable = true) (R : KS P w s.heap a L) (room : L.length + 1 < scanBound)
    (done : ∀ h' b L', Heap.SameBut a s.heap h' → KS P w h' a L' → (∀ j, j ∈ L'.map (·.1) ↔ j = k ∨ j ∈ L.map (·.1)) → L'.length ≤ L.length + 1 → Q b { s with heap := h' }) :
    wpAny (model P w) A (setAddHashed a v ((mixKind P w).hash k)) Q E s := by
  obtain ⟨o, es, ep, t, at0, ex0, dat0, K⟩ := R
  have el := K.elems
  unfold setAddHashed setAddHashedIn
  refine wpAny_holding (wpAny_bind (wpAny_setState_of at0 dat0 K.fits ?_))
  dsimp only
  rw [byScan_of hsc (by rw [K.size]; exact K.few) el]
  simp only [↓reduceIte]
  unfold setAddByScan
  refine wpAny_bind (wpAny_bind (wpAny_rule (wpAny_bind (wpAny_setScan_of hk at0 dat0 K.fits el ?_))))
  cases hfi : List.findIdx? (fun e => (mixKind P w).is k e.2) es.toList with
  | some j =>
    dsimp only
    obtain ⟨hj, pj, _⟩ := List.findIdx?_eq_some_iff_getElem.mp hfi
    have inL : k ∈ L.map (·.1) := by
      obtain ⟨p, hp, ep'⟩ := List.mem_map.mp (K.perm.mem_iff.mp (List.getElem_mem hj))
      have e2 : p.2 = es.toList[j].2 := by rw [← ep']
      rw [← e2] at pj
      have ek := (mixKind P w).inj p.2 k p.1 pj (K.is p hp).1
      exact List.mem_map.mpr ⟨p, hp, ek.symm⟩
    exact wpAny_pure (wpAny_pure (done s.heap _ L (Heap.SameBut.refl a s.heap) ⟨o, es, ep, t, at0, ex0, dat0, K⟩ (fun i => ⟨.inr, fun z => z.elim (fun y => by rw [y]; exact inL) id⟩) (Nat.le_succ _)))
  | none =>
    dsimp only
    have notL : k ∉ L.map (·.1) := fun z => by
      obtain ⟨p, hp, rfl⟩ := List.mem_map.mp z
      have c := List.findIdx?_eq_none_iff.mp hfi _ (K.perm.mem_iff.mpr (List.mem_map.mpr ⟨p, hp, rfl⟩))
      rw [(K.is p hp).1] at c
      cases c
    have gave : ∀ (b : Bool) {s₁ : Shared} {Q' : Unit → Shared → Prop}, Q' () s₁ → wpAny (model P w) A (match b with | true => rule "set.scan.the-table-gave-way" | false => pure ()) Q' E s₁ :=
      fun b _ _ q => by
        cases b
        · exact wpAny_pure q
        · exact wpAny_rule q
    have l1 := layNew_perm t es ((mixKind P w).hash k) v
    have l2 := layNew_fits t es ((mixKind P w).hash k) v
    have l3 := layNew_ris t es ((mixKind P w).hash k) v K.ris
    have l4 := layNew_led t es ((mixKind P w).hash k) v
    revert l1 l2 l3 l4
    generalize layNew t es ((mixKind P w).hash k) v = Z
    obtain ⟨e1, t1, dm, gw⟩ := Z
    intro l1 l2 l3 l4
    dsimp only at l1 l2 l3 l4 ⊢
    rw [Array.toList_push] at l1
    have base : ∀ t' : SetTable, t'.fits e1.size = true → Ris t'.place.toList → (w.params.followText "set-order" = true ∨ t'.led = true) → KSe P w ((k, v) :: L) e1 t' := fun t' f1 f2 f3 =>
      ⟨(l1.trans (List.perm_append_singleton _ _)).trans (K.perm.cons _), fun p hp => (List.mem_cons.mp hp).elim (fun z => by rw [z]; exact ⟨hk, hsc⟩) (K.is p), List.nodup_cons.mpr ⟨notL, K.nd⟩, room, f1, f2, f3⟩
    have led1 : w.params.followText "set-order" = true ∨ t1.led = true := K.led.imp id fun z => by rw [l4]; exact z
    have fin : ∀ h', Heap.SameBut a s.heap h' → KS P w h' a ((k, v) :: L) → Q true { s with heap := h' } := fun h' sb r =>
      done h' true _ sb r (fun i => by rw [List.map_cons, List.mem_cons]) (Nat.le_refl _)
    refine wpAny_bind (gave _ ?_)
    split
    · refine wpAny_bind ?_
      rw [hashByValue_scannable 8 hsc]
      refine wpAny_pure ?_
      refine ks_tail (fun b _ _ q => gave b q) at0 ex0 dat0 (base _ ?_ ?_ ?_) fun h' sb r => ?_
      · first | (split <;> first | exact l2 | exact SetTable.fits_plain_off l2) | exact l2
      · first | (split <;> exact l3) | exact l3
      · first | (split <;> exact led1) | exact led1
      · dsimp only
        exact wpAny_pure (fin h' sb r)
    · refine wpAny_bind (wpAny_pure ?_)
      simp only [↓reduceIte]
      refine ks_tail (fun b _ _ q => gave b q) at0 ex0 dat0 (base _ l2 l3 led1) fun h' sb r => ?_
      dsimp only
      exact wpAny_pure (fin h' sb r)
end
end Dn

/-! sorted(set(xs)), len(set(xs)): the calls -/
namespace Dn
open PySem PySem.Spec PyProof.Rows L2
section
variable {P : Program} {w : World} {A : Around} {E : Value → Shared → Prop} {s : Shared}
theorem ks_loop {I : Addr} {fp wr : List Addr} {G : Array GenState → Array GenState → Prop} {n : Nat} {Pv : Nat → Value → Prop} {St : Nat → Shared → Prop} {R : Result → Shared → Prop}
    (W : WalksS P w A.in1 I fp wr G n Pv St) (T : Addr) (out : T ∉ fp) (ks : List Key) (hn : n = ks.length) (room : ks.length + 1 < scanBound)
    (each : ∀ i v, Pv i v → ∃ k, ks[i]? = some k ∧ (mixKind P w).is k v = true ∧ v.scannable = true) :
    ∀ (m i : Nat) (s : Shared), n - i = m → i ≤ n → St i s → (∃ L, L.length ≤ i ∧ KS P w s.heap T L ∧ ∀ j, j ∈ L.map (·.1) ↔ j ∈ ks.take i) →
      (∀ s' L, Moved (T :: wr) G s s' → L.length ≤ n → KS P w s'.heap T L → (∀ j, j ∈ L.map (·.1) ↔ j ∈ ks) → R (.ok (.ret .none)) s') →
      codeAny (model P w) A (.builtin "set.update.loop" ⟨[.ref T, .ref I], []⟩) R s := by
  have outW : T ∉ wr := fun z => out (W.sub _ z)
  have wide : ∀ b ∈ wr, b ∈ T :: wr := fun b z => List.mem_cons_of_mem _ z
  intro m
  induction m with
  | zero =>
    intro i s em hi hst hL fin
    obtain ⟨L, z1, z2, z3⟩ := hL
    obtain rfl : i = n := by omega
    refine codeAny_builtin F.entry_set_update_loop ?_
    rw [Around.under_plainId F.plain_set_update_loop _]
    show wpAny _ A.in1 (pyNext (.ref I) >>= _) _ _ s
    refine wpAny_bind (W.done s _ _ hst fun s' mv => ?_)
    show wpAny _ A.in1 (ret Value.none) _ _ s'
    refine wpAny_pure (fin s' L (mv.mono wide) z1 (z2.at fun o e => mv.heap T o outW e) fun j => ?_)
    rw [z3 j, List.take_of_length_le (by omega)]
  | succ m ih =>
    intro i s em hi hst hL fin
    obtain ⟨L, z1, z2, z3⟩ := hL
    have lt : i < n := by omega
    refine codeAny_builtin F.entry_set_update_loop ?_
    rw [Around.under_plainId F.plain_set_update_loop _]
    show wpAny _ A.in1 (pyNext (.ref I) >>= _) _ _ s
    refine wpAny_bind (W.item i s _ _ lt hst fun v s' hv hst' mv => ?_)
    obtain ⟨k, e1, e2, e3⟩ := each i v hv
    have z4 : KS P w s'.heap T L := z2.at fun o e => mv.heap T o outW e
    show wpAny _ A.in1 (holding [v] (setAdd T v) >>= _) _ _ s'
    refine wpAny_bind (wpAny_holding ?_)
    unfold setAdd
    refine wpAny_holding (wpAny_bind ((mixKind P w).pyHash e2 ?_))
    refine ks_add (s := { s' with toks := s'.toks + 1 }) e2 e3 z4 (by omega) fun h' b L' sb r mem len => ?_
    have next : ∃ L0, L0.length ≤ i + 1 ∧ KS P w h' T L0 ∧ ∀ j, j ∈ L0.map (·.1) ↔ j ∈ ks.take (i + 1) := ⟨L', by omega, r, fun j => by
      rw [mem j, z3 j, List.take_add_one, e1, List.mem_append]
      simp only [Option.toList_some, List.mem_singleton]
      exact Or.comm⟩
    have stays : ∀ b o, b ≠ T → s'.heap.get? b = some o → h'.get? b = some o := fun b o hb e => (sb.2 b hb).trans e
    refine wpAny_pure ⟨plainId_quiet F.plain_set_update_loop _, ih (i + 1) _ (by omega) lt (W.frame _ s' _ _ hst' (Nat.le_succ _) fun b hb o e => stays b o (fun z => out (z ▸ hb)) e) next fun s9 L9 mv9 c1 c2 c3 => ?_⟩
    exact fin s9 L9 (Moved.trans W.gtrans ((mv.mono wide).then_heap (Nat.le_succ _) fun b o hb e => stays b o (fun z => hb (z ▸ List.mem_cons_self)) e) mv9) c1 c2 c3

set_option maxRecDepth 100000 in
set_option maxHeartbeats 3200000 in
/-- set(xs) of a list -/
theorem ks_call {l : Addr} {items : Array Value} (ks : List Key) {Q : Value → Shared → Prop} (hh : A.handled = none) (hl : s.heap.IsList l items) (hn : items.size = ks.length) (room : ks.length + 1 < scanBound)
    (each : ∀ (i : Nat) v, items[i]? = some v → ∃ k, ks[i]? = some k ∧ (mixKind P w).is k v = true ∧ v.scannable = true)
    (fin : ∀ (h' : Heap) (tk : Nat) (L : List (Key × Value)), KS P w h' s.heap.objs.size L → L.length ≤ ks.length → (∀ j, j ∈ L.map (·.1) ↔ j ∈ ks) → (∀ b o, s.heap.get? b = some o → h'.get? b = some o) → Q (.ref s.heap.objs.size) { s with heap := h', toks := tk }) :
    wpAny (model P w) A (call (.type "set") [.ref l]) Q E s := by
  obtain ⟨c, tl, hmro⟩ := F.called_set.mro
  have hmade := F.called_set.made
  have hsub := F.called_set.sub
  refine wpAny_call (codeAny_of_tree ?_)
  show wpAny _ _ (callAny (.type "set") _) _ _ _
  refine wpAny_pure ⟨Code.quiet_builtin _ (by decide +kernel), codeAny_builtin F.entry_type_call ?_⟩
  rw [Around.under_plain (weight_type_call_type "set" [.ref l] []) rfl]
  have h1 := F.called_set.notType
  have h2 := F.called_set.canCreate
  have hct := F.typeCall_set_1 (.ref l)
  repeat (any_goals (first | assumption | wp_step))
  refine codeAny_mono (code_set_led1 (.ref l) (E := E) (Q₁ := fun obj s₁ => obj = .ref s.heap.objs.size ∧ s₁ = { s with heap := s.heap.push (fso w) }) ⟨rfl, rfl⟩) fun r s₁ hr => ?_
  cases r with
  | error e => exact hr
  | ok fl =>
    cases fl with
    | ret obj =>
      obtain ⟨rfl, rfl⟩ := hr
      have atS : (s.heap.push (fso w)).get? s.heap.objs.size = some (fso w) := Heap.get?_push_size _ rfl
      have hT : Shared.TypeIs { s with heap := s.heap.push (fso w) } (.ref s.heap.objs.size) "set" := ⟨_, atS, rfl⟩
      have hli := F.called_set.init.lookup
      have hbi := F.called_set.init.bind (.ref s.heap.objs.size)
      repeat (any_goals (first | assumption | wp_step))
      refine codeAny_mono (codeAny_call_builtin (R := wants (fun r s₂ => r = .none ∧ ∃ h' tk L, s₂ = { s with heap := h', toks := tk } ∧ KS P w h' s.heap.objs.size L ∧ L.length ≤ ks.length ∧ (∀ j, j ∈ L.map (·.1) ↔ j ∈ ks) ∧
          (∀ b o, s.heap.get? b = some o → h'.get? b = some o)) E) F.called_set.init.plain F.entry_set_init (check_set_init_1 hT ?_)) fun r₂ s₂ hr₂ => ?_
      · obtain ⟨⟨ocls, odict, odata, oslots⟩, hol, hcl, nl, hdl⟩ := hl
        simp only at hcl hdl
        subst hcl; subst hdl
        have l0 : l < s.heap.objs.size := Heap.lt_size hol
        have hol' : (s.heap.push (fso w)).get? l = some { cls := .type "list", dict := odict, data := .seq items nl, slots := oslots } := Heap.get?_push_of_some _ hol
        have hsls := F.sub_list_set
        have hslf := F.sub_list_frozenset
        have hne : (Value.type "list" == Value.type "dict") = false := by decide
        have isl : (s.heap.push (fso w)).IsList l items := ⟨_, hol', rfl, nl, rfl⟩
        unfold Builtin.«set.__init__» noKeywords Builtin.Frozenset.updateFrom
        generalize hPI : pyIter = PI
        wp_walk
        subst hPI
        refine wpAny_pyIter_list isl ?_
        refine wpAny_bind (wpAny_runValue ?_)
        have hh3 : A.in1.in1.in1.handled = none := by simp [hh]
        have sz : (s.heap.push (fso w)).objs.size = s.heap.objs.size + 1 := Heap.size_push ..
        have apart : l ≠ (s.heap.push (fso w)).objs.size := by rw [sz]; exact Nat.ne_of_lt (Nat.lt_succ_of_lt l0)
        have outF : s.heap.objs.size ∉ [(s.heap.push (fso w)).objs.size, l] := by
          rw [sz]
          exact fun z => (List.mem_cons.mp z).elim (fun y => absurd y (Nat.ne_of_lt (Nat.lt_succ_self _))) fun y => absurd (List.mem_singleton.mp y) (Nat.ne_of_gt l0)
        refine ks_loop (P := P) (w := w) ((Walks.list hh3 _ l apart items).toS) s.heap.objs.size outF ks hn room each (items.size - 0) 0 _ (by omega) (Nat.zero_le _)
          ⟨⟨_, Heap.get?_push_size _ rfl, rfl, rfl⟩, (isl.push _)⟩ ?start ?fini
        case start => exact ⟨[], Nat.le_refl _, ks_new (Heap.get?_push_of_some _ atS), fun j => by simp⟩
        case fini =>
          intro s' L mv c1 c2 c3
          obtain ⟨h', g2, d', tk', os'⟩ := s'
          obtain rfl : g2 = s.gens := mv.gens
          obtain rfl : d' = s.drawn := mv.drawn
          obtain rfl : os' = s.os := mv.os
          show wpAny _ _ _ _ _ _
          refine wpAny_pure ?_
          show wpAny _ _ (ret Value.none) _ _ _
          refine wpAny_pure ⟨rfl, h', tk', L, rfl, c2, by omega, c3, fun b o e => ?_⟩
          have b0 : b < s.heap.objs.size := Heap.lt_size e
          refine mv.heap b o ?_ (Heap.get?_push_of_some _ (Heap.get?_push_of_some _ e))
          rw [sz]
          exact fun z => (List.mem_cons.mp z).elim (fun y => absurd y (Nat.ne_of_lt b0)) fun y => absurd (List.mem_singleton.mp y) (Nat.ne_of_lt (Nat.lt_succ_of_lt b0))
      · cases r₂ with
        | error e => exact hr₂
        | ok fl₂ =>
          cases fl₂ with
          | ret r =>
            obtain ⟨rfl, h', tk, L, rfl, c1, c2, c3, c4⟩ := hr₂
            repeat (any_goals (first | assumption | wp_step))
            exact fin _ _ _ c1 c2 c3 c4
          | _ => exact hr₂.elim
    | _ => exact hr.elim
end
end Dn

/-! sorted(set(xs)), len(set(xs)): the rules -/
namespace Dn
open PySem PySem.Spec PyProof.Rows L2
def ddp {α : Type} [DecidableEq α] : List α → List α
  | [] => []
  | x :: l => if x ∈ ddp l then ddp l else x :: ddp l
theorem mem_ddp {α : Type} [DecidableEq α] {y : α} : ∀ {l : List α}, y ∈ ddp l ↔ y ∈ l
  | [] => Iff.rfl
  | x :: l => by
    have ih := mem_ddp (y := y) (l := l)
    unfold ddp
    split
    · rename_i h
      rw [ih, List.mem_cons]
      exact ⟨.inr, fun z => z.elim (fun e => by rw [e]; exact mem_ddp.mp h) id⟩
    · rw [List.mem_cons, List.mem_cons, ih]
theorem nodup_ddp {α : Type} [DecidableEq α] : ∀ l : List α, (ddp l).Nodup
  | [] => List.nodup_nil
  | x :: l => by
    unfold ddp
    split
    · exact nodup_ddp l
    · rename_i h
      exact List.nodup_cons.mpr ⟨h, nodup_ddp l⟩
theorem ddp_le {α : Type} [DecidableEq α] : ∀ l : List α, (ddp l).length ≤ l.length
  | [] => Nat.le_refl _
  | x :: l => by
    have := ddp_le l
    unfold ddp
    split
    · rw [List.length_cons]
      omega
    · rw [List.length_cons, List.length_cons]
      omega
theorem ddp_nodup {α : Type} [DecidableEq α] : ∀ {l : List α}, l.Nodup → ddp l = l
  | [], _ => rfl
  | x :: l, h => by
    obtain ⟨h1, h2⟩ := List.nodup_cons.mp h
    unfold ddp
    rw [ddp_nodup h2, if_neg h1]
def sortI (l : List Int) : List Int := l.mergeSort fun a b => decide (a ≤ b)
theorem sortI_perm (l : List Int) : (sortI l).Perm l := List.mergeSort_perm l _
theorem sortI_ord (l : List Int) : (sortI l).Pairwise (· ≤ ·) := by
  have := List.pairwise_mergeSort (le := fun a b : Int => decide (a ≤ b)) (fun a b c h k => by simp only [decide_eq_true_eq] at *; omega) (fun a b => by simp only [Bool.or_eq_true, decide_eq_true_eq]; omega) l
  exact this.imp fun h => by simpa using h
theorem ordI_uniq : ∀ {l m : List Int}, l.Pairwise (· ≤ ·) → m.Pairwise (· ≤ ·) → l.Perm m → l = m
  | [], m, _, _, p => (List.Perm.eq_nil p.symm).symm
  | x :: l, [], _, _, p => by cases p.length_eq
  | x :: l, y :: m, h, k, p => by
    have hx := List.pairwise_cons.mp h
    have ky := List.pairwise_cons.mp k
    have e : x = y := by
      have m1 : x ∈ y :: m := p.mem_iff.mp List.mem_cons_self
      have m2 : y ∈ x :: l := p.mem_iff.mpr List.mem_cons_self
      rcases List.mem_cons.mp m1 with e | m1
      · exact e
      · rcases List.mem_cons.mp m2 with e | m2
        · exact e.symm
        · have := hx.1 y m2
          have := ky.1 x m1
          omega
    subst e
    rw [ordI_uniq hx.2 ky.2 (List.Perm.cons_inv p)]
theorem sortI_uniq {l m : List Int} (p : m.Perm l) (h : m.Pairwise (· ≤ ·)) : m = sortI l := ordI_uniq h (sortI_ord l) (p.trans (sortI_perm l).symm)

/-! ### sorted of the set at a -/
def vStr : Value → Str
  | .str x _ => x
  | _ => ⟨#[]⟩
def vNum : Value → Int
  | .int i _ => i
  | _ => 0
theorem strs_vs : ∀ {vs : List Value}, (∀ v ∈ vs, ∃ x t, v = Value.str x t) → StrsAre vs (vs.map vStr)
  | [], _ => .nil
  | v :: vs, h => by
    obtain ⟨x, t, rfl⟩ := h v List.mem_cons_self
    exact .cons x t (strs_vs fun u hu => h u (List.mem_cons_of_mem _ hu))
theorem nums_vs : ∀ {vs : List Value}, (∀ v ∈ vs, ∃ x t, v = Value.int x t) → IntsAre vs (vs.map vNum)
  | [], _ => .nil
  | v :: vs, h => by
    obtain ⟨x, t, rfl⟩ := h v List.mem_cons_self
    exact .cons x t (nums_vs fun u hu => h u (List.mem_cons_of_mem _ hu))
theorem perm_of_mem {α : Type} [DecidableEq α] {l m : List α} (h : l.Nodup) (k : ∀ x, x ∈ l ↔ x ∈ m) : l.Perm (ddp m) :=
  (List.perm_ext_iff_of_nodup h (nodup_ddp m)).mpr fun x => (k x).trans mem_ddp.symm
section
variable {P : Program} {w : World} {A : Around} {E : Value → Shared → Prop} {s : Shared} {a : Addr} {L : List (Key × Value)}
/-- up to the sort of the values -/
theorem ks_sorted {Q : Value → Shared → Prop} (R : KS P w s.heap a L) (hh : A.handled = none) (few : L.length < 64)
    (go : ∀ (s1 : Shared) (vs : List Value), (∀ b o, s.heap.get? b = some o → s1.heap.get? b = some o) → s.heap.objs.size ≤ s1.heap.objs.size → s1.gens = s.gens → s1.os = s.os → vs.Perm (L.map (·.2)) →
      (s1.heap.push (seqObj "list" vs.toArray 0)).get? s1.heap.objs.size = some (seqObj "list" vs.toArray 0) →
      wpAny (model P w) A.in1 (call (.builtin "list.sort") [.ref s1.heap.objs.size]) (fun _ s' => Q (.ref s1.heap.objs.size) s') E { s1 with heap := s1.heap.push (seqObj "list" vs.toArray 0) }) :
    wpAny (model P w) A (call (.builtin "sorted") [.ref a]) Q E s := by
  obtain ⟨o, es, ep, t, at0, ex0, dat0, K⟩ := R
  refine Calls.call_function_entry kind_sorted plain_sorted entry_sorted (args_sorted1 _) ?_
  unfold Builtin.«sorted»
  refine wpAny_bind (m := checkCount "sorted" 1 1 _) (wpAny_pure ?_)
  refine wpAny_bind (collect_set (A := A.in1) hh ⟨o, at0, ex0.1, dat0⟩ K.fits (by rw [K.size]; exact K.few) K.ris K.led fun s1 vs k1 hz g1 o1 pm => ?_)
  have pv : vs.Perm (L.map (·.2)) := by
    have q := pm.trans (K.perm.map (·.2))
    rw [List.map_map] at q
    exact q
  have lv : vs.length = L.length := by rw [pv.length_eq, List.length_map]
  refine wpAny_bind (wpAny_newList ?_ (by rw [lv, sizeLine_eq]; omega))
  refine wpAny_bind (wpAny_holding (wpAny_mono (go s1 vs k1 hz g1 o1 pv (Heap.get?_push_size _ rfl)) (fun _ s' x => ?_) fun _ _ e => e))
  exact wpAny_pure ⟨_, rfl, x⟩
theorem push_keep {s1 : Shared} {vs : List Value} {out : Array Value} {b : Addr} {u : Obj} (q : s1.heap.get? b = some u) :
    (sortedHeap (s1.heap.push (seqObj "list" vs.toArray 0)) s1.heap.objs.size vs out).get? b = some u := by
  have hlt := Heap.lt_size q
  rw [sortedHeap_old (Nat.ne_of_lt hlt) (by rw [Heap.size_push]; exact Nat.lt_succ_of_lt hlt)]
  exact Heap.get?_push_of_some _ q
theorem ks_sortedS {xs : List Str} {Q : Value → Shared → Prop} (R : KS P w s.heap a L) (hh : A.handled = none) (few : L.length < 64) (hk : ∀ j : Key, j ∈ L.map (·.1) ↔ j ∈ xs.map Sum.inr)
    (fin : ∀ s' p (out : Array Value) (c : Nat), (∀ b o, s.heap.get? b = some o → s'.heap.get? b = some o) → s'.gens = s.gens → s'.os = s.os → s.heap.objs.size ≤ p →
      s'.heap.get? p = some (seqObj "list" out c) → StrsAre out.toList (sortS (ddp xs)) → Q (.ref p) s') :
    wpAny (model P w) A (call (.builtin "sorted") [.ref a]) Q E s := by
  have K : (L.map (·.1)).Nodup ∧ ∀ p ∈ L, ∃ x t, p.1 = .inr x ∧ p.2 = Value.str x t := by
    obtain ⟨o, es, ep, t, at0, ex0, dat0, K⟩ := R
    refine ⟨K.nd, fun p hp => ?_⟩
    have h1 : p.1 ∈ xs.map Sum.inr := (hk p.1).mp (List.mem_map.mpr ⟨p, hp, rfl⟩)
    obtain ⟨x, _, e⟩ := List.mem_map.mp h1
    rcases keyIs_shape (show keyIs p.1 p.2 = true from (K.is p hp).1) with ⟨i, tk, e2, _⟩ | ⟨y, tk, e2, e3⟩
    · rw [← e] at e2
      cases e2
    · exact ⟨y, tk, e2, e3⟩
  refine ks_sorted R hh few fun s1 vs k1 hz g1 o1 pv at1 => ?_
  have hS : StrsAre vs (vs.map vStr) := strs_vs fun v hv => by
    obtain ⟨p, hp, rfl⟩ := List.mem_map.mp (pv.mem_iff.mp hv)
    obtain ⟨x, t, _, e⟩ := K.2 p hp
    exact ⟨x, t, e⟩
  have lv : vs.length < 64 := by rw [pv.length_eq, List.length_map]; exact few
  have px : (vs.map vStr).Perm (ddp xs) := by
    have e : L.map (·.1) = (L.map fun p => vStr p.2).map Sum.inr := by
      rw [List.map_map]
      refine List.map_congr_left fun p hp => ?_
      obtain ⟨x, t, e1, e2⟩ := K.2 p hp
      show p.1 = Sum.inr (vStr p.2)
      rw [e1, e2] <;> rfl
    have q := pv.map vStr
    rw [List.map_map] at q
    refine q.trans (perm_of_mem ?_ fun x => ?_)
    · have n := K.1
      rw [e] at n
      exact (List.pairwise_map.mp n).imp fun h z => h (congrArg Sum.inr z)
    · have m := hk (.inr x)
      rw [e, List.mem_map, List.mem_map] at m
      constructor
      · intro z
        obtain ⟨y, hy, ey⟩ := m.mp ⟨x, z, rfl⟩
        cases ey
        exact hy
      · intro z
        obtain ⟨y, hy, ey⟩ := m.mpr ⟨x, z, rfl⟩
        cases ey
        exact hy
  refine wpAny_call_entry slot_list_sort ⟨_, at1, rfl⟩ entry_list_sort (list_sort_treeK strKind_oneLt at1 hS.keysOf (fun v₁ v₂ rest e => keyKind_strs (by rw [← e]; exact hS)) lv fun st' hp hs => ?_) (args_list_sort _)
  obtain ⟨ys, f1, f2, f3⟩ := sorted_out_str hS hp hs
  obtain ⟨c, at2⟩ := sortedHeap_at (vs := vs) (out := (arrOf st').map (·.2)) at1
  refine ⟨_, rfl, fin _ s1.heap.objs.size _ c (fun b u e => push_keep (k1 b u e)) g1 o1 hz at2 ?_⟩
  rw [← sortS_uniq (f2.trans px) f3]
  exact f1
theorem ks_sortedI {xs : List Int} {Q : Value → Shared → Prop} (R : KS P w s.heap a L) (hh : A.handled = none) (few : L.length < 64) (hk : ∀ j : Key, j ∈ L.map (·.1) ↔ j ∈ xs.map Sum.inl)
    (fin : ∀ s' p (out : Array Value) (c : Nat), (∀ b o, s.heap.get? b = some o → s'.heap.get? b = some o) → s'.gens = s.gens → s'.os = s.os → s.heap.objs.size ≤ p →
      s'.heap.get? p = some (seqObj "list" out c) → IntsAre out.toList (sortI (ddp xs)) → Q (.ref p) s') :
    wpAny (model P w) A (call (.builtin "sorted") [.ref a]) Q E s := by
  have K : (L.map (·.1)).Nodup ∧ ∀ p ∈ L, ∃ x t, p.1 = .inl x ∧ p.2 = Value.int x t := by
    obtain ⟨o, es, ep, t, at0, ex0, dat0, K⟩ := R
    refine ⟨K.nd, fun p hp => ?_⟩
    have h1 : p.1 ∈ xs.map Sum.inl := (hk p.1).mp (List.mem_map.mpr ⟨p, hp, rfl⟩)
    obtain ⟨x, _, e⟩ := List.mem_map.mp h1
    rcases keyIs_shape (show keyIs p.1 p.2 = true from (K.is p hp).1) with ⟨i, tk, e2, e3⟩ | ⟨y, tk, e2, _⟩
    · exact ⟨i, tk, e2, e3⟩
    · rw [← e] at e2
      cases e2
  refine ks_sorted R hh few fun s1 vs k1 hz g1 o1 pv at1 => ?_
  have hS : IntsAre vs (vs.map vNum) := nums_vs fun v hv => by
    obtain ⟨p, hp, rfl⟩ := List.mem_map.mp (pv.mem_iff.mp hv)
    obtain ⟨x, t, _, e⟩ := K.2 p hp
    exact ⟨x, t, e⟩
  have lv : vs.length < 64 := by rw [pv.length_eq, List.length_map]; exact few
  have px : (vs.map vNum).Perm (ddp xs) := by
    have e : L.map (·.1) = (L.map fun p => vNum p.2).map Sum.inl := by
      rw [List.map_map]
      refine List.map_congr_left fun p hp => ?_
      obtain ⟨x, t, e1, e2⟩ := K.2 p hp
      show p.1 = Sum.inl (vNum p.2)
      rw [e1, e2] <;> rfl
    have q := pv.map vNum
    rw [List.map_map] at q
    refine q.trans (perm_of_mem ?_ fun x => ?_)
    · have n := K.1
      rw [e] at n
      exact (List.pairwise_map.mp n).imp fun h z => h (congrArg Sum.inl z)
    · have m := hk (.inl x)
      rw [e, List.mem_map, List.mem_map] at m
      constructor
      · intro z
        obtain ⟨y, hy, ey⟩ := m.mp ⟨x, z, rfl⟩
        cases ey
        exact hy
      · intro z
        obtain ⟨y, hy, ey⟩ := m.mpr ⟨x, z, rfl⟩
        cases ey
        exact hy
  refine wpAny_call_entry slot_list_sort ⟨_, at1, rfl⟩ entry_list_sort (list_sort_tree at1 hS lv fun out ns' f1 f2 f3 => ?_) (args_list_sort _)
  obtain ⟨c, at2⟩ := sortedHeap_at (vs := vs) (out := out) at1
  refine ⟨_, rfl, fin _ s1.heap.objs.size _ c (fun b u e => push_keep (k1 b u e)) g1 o1 hz at2 ?_⟩
  rw [← sortI_uniq (f2.trans px) f3]
  exact f1
end
/-! ### the rules -/
def tSortSet (K : PySem.W.Frag) (ta : TE) : TE := fun σ H Q => ta σ H fun x H1 => ∃ l, x = .ref l ∧
  ((∃ xs : List Str, SqL K H1 l (xs.map V.str) ∧ xs.length < 4000 ∧ (ddp xs).length < 64 ∧ ∀ p, H1 p = none → Q (.ref p) (upd H1 p (.lst ((sortS (ddp xs)).map V.str)))) ∨
   ∃ xs : List Int, SqL K H1 l (xs.map V.int) ∧ xs.length < 4000 ∧ (ddp xs).length < 64 ∧ ∀ p, H1 p = none → Q (.ref p) (upd H1 p (.lst ((sortI (ddp xs)).map V.int))))
section
variable {X : Cx}
theorem vals_key {xs : List V} {us : List Value} (r : Vals xs us) {ks : List Key} (e : xs = ks.map kV) : ∀ (i : Nat) v, us[i]? = some v → ∃ k, ks[i]? = some k ∧ (mixKind X.prog X.w).is k v = true ∧ v.scannable = true := by
  subst e
  induction ks generalizing us with
  | nil =>
    cases r
    intro i v h
    simp at h
  | cons k ks ih =>
    cases r with
    | @cons _ u _ us' r1 r2 =>
      intro i v h
      cases i with
      | zero =>
        have e : u = v := by simpa using h
        subst e
        exact ⟨k, rfl, kV_is r1, key_scan r1⟩
      | succ i =>
        obtain ⟨k', h1, h2⟩ := ih r2 i v (by simpa using h)
        exact ⟨k', by simpa using h1, h2⟩
theorem pe_sortSet {a : Expr} {ta : TE} {p p2 q pos : Pos} (hg : Gl X "sorted") (hm : X.mg "sorted" = none) (hg2 : Gl X "set") (hm2 : X.mg "set" = none) (ha : PE X a ta) (hc : X.calm = true := by rfl)
    (na : starEach [a] X.env = (false, eval a X.env) :: starEach [] X.env := by rfl) : PE X (.Call (.Name "sorted" p) [.Call (.Name "set" p2) [a] [] q] [] pos) (tSortSet X.K ta) := by
  refine ⟨fun pins s σ H Q I h => ?_⟩
  refine Call_ (ld_blt I hg hm boot_sorted ?_)
  refine PyProof.Rows.callWith_builtin1 (PyProof.Rows.args_cons ?_ rfl) rfl rfl
  refine Call_ (ld_blt I hg2 hm2 boot_set ?_)
  refine PyProof.Rows.callWith_type1 (PyProof.Rows.args_cons (thn (ha.run pins s σ H _ I h) fun v s1 ⟨x, H1, I1, r1, q1⟩ => PyProof.Rows.args_nil ?_) na) na rfl
  obtain ⟨l, rfl, q1⟩ := q1
  cases r1
  have step : ∀ (ys : List V) (ks : List Key), ys = ks.map kV → SqL X.K H1 l ys → ks.length < 4000 →
      (∀ (s2 : Shared) (L : List (Key × Value)), s2.gens = s1.gens → s2.os = s1.os → Inv X pins σ H1 s2 → KS X.prog X.w s2.heap s1.heap.objs.size L → (∀ j, j ∈ L.map (·.1) ↔ j ∈ ks) →
        wpAny (model X.prog X.w) X.A (call (.builtin "sorted") [.ref s1.heap.objs.size]) (EP X pins σ Q) X.xe s2) →
      wpAny (model X.prog X.w) X.A (call (.type "set") [.ref l]) (fun v₁ s₁ => wpAny (model X.prog X.w) X.A (spliced (backTo pos (starEach [] X.env))) (fun vs s₂ => wpAny (model X.prog X.w) X.A (call (.builtin "sorted") (v₁ :: vs)) (EP X pins σ Q) X.xe s₂) X.xe s₁) X.xe s1 := fun ys ks e hq hl go => by
    obtain ⟨its, r, pl, hz⟩ := I1.list hq
    have el : its.toArray.size = ks.length := by rw [List.size_toArray, ← r.length, e, List.length_map]
    refine ks_call (P := X.prog) (w := X.w) ks (I1.ok.hd hc) pl.isList el (by unfold scanBound; omega) (fun i v hv => vals_key (X := X) r e i v (by simpa using hv)) fun h' tk L c1 c2 c3 c4 => ?_
    refine PyProof.Rows.args_nil ?_
    exact go { s1 with heap := h', toks := tk } L rfl rfl (I1.kept c4) c1 c3
  have laid : ∀ (s2 s' : Shared) (p : Addr) (out : Array Value) (c : Nat) (zs : List V), Inv X pins σ H1 s2 → (∀ b o, s2.heap.get? b = some o → s'.heap.get? b = some o) → s'.gens = s2.gens → s'.os = s2.os → s2.heap.objs.size ≤ p →
      s'.heap.get? p = some (seqObj "list" out c) → Vals zs out.toList → zs.length ≤ sizeLine → (∀ p, H1 p = none → Q (.ref p) (upd H1 p (.lst zs))) → EP X pins σ Q (.ref p) s' := fun s2 s' p out c zs I2 k g o hp at2 rv hl q => by
    have hn : H1 p = none := I2.hok.fresh hp
    have J : Inv X pins σ (upd H1 p (.lst zs)) { s2 with heap := s'.heap, gens := s'.gens, drawn := s'.drawn, toks := s'.toks } :=
      I2.call (ch := []) (Un.laid k hp hn) (I2.hok.laid k hp ⟨hl, out.toList, c, rv, at2⟩) (by rw [g]; exact I2.bare) (fun _ z => nomatch z)
    have e : s' = { s2 with heap := s'.heap, gens := s'.gens, drawn := s'.drawn, toks := s'.toks } := by
      cases s'
      cases s2
      cases o
      rfl
    rw [e]
    exact ⟨.ref p, _, J, rfl, q p hn⟩
  have lenL : ∀ {κ : Type} [DecidableEq κ] {L : List (Key × Value)} {f : κ → Key} {xs : List κ}, (∀ i j, f i = f j → i = j) → (L.map (·.1)).Nodup → (∀ j, j ∈ L.map (·.1) ↔ j ∈ xs.map f) → (ddp xs).length < 64 → L.length < 64 := fun {κ} _ {L} {f} {xs} inj nd m h => by
    have p : (L.map (·.1)).Perm ((ddp xs).map f) := (List.perm_ext_iff_of_nodup nd ((List.pairwise_map.mpr ((nodup_ddp xs).imp fun h z => h (inj _ _ z))))).mpr fun j => by
      rw [m j, List.mem_map, List.mem_map]
      exact ⟨fun ⟨x, h1, h2⟩ => ⟨x, mem_ddp.mpr h1, h2⟩, fun ⟨x, h1, h2⟩ => ⟨x, mem_ddp.mp h1, h2⟩⟩
    have := p.length_eq
    rw [List.length_map, List.length_map] at this
    omega
  rcases q1 with ⟨xs, hq, hl, h64, q1⟩ | ⟨xs, hq, hl, h64, q1⟩
  · refine step _ (xs.map Sum.inr) (by rw [List.map_map] <;> rfl) hq (by rw [List.length_map]; exact hl) fun s2 L g2 o2 I2 R m => ?_
    have nd : (L.map (·.1)).Nodup := let ⟨_, _, _, _, _, _, _, K⟩ := R; K.nd
    refine ks_sortedS R (I2.ok.hd hc) (lenL (fun i j z => Sum.inr.inj z) nd m h64) m fun s' p out c k g o hp at2 hS => ?_
    refine laid s2 s' p out c _ I2 k g o hp at2 (vals_of_strs hS) ?_ q1
    rw [List.length_map, (sortS_perm _).length_eq]
    exact small64 h64
  · refine step _ (xs.map Sum.inl) (by rw [List.map_map] <;> rfl) hq (by rw [List.length_map]; exact hl) fun s2 L g2 o2 I2 R m => ?_
    have nd : (L.map (·.1)).Nodup := let ⟨_, _, _, _, _, _, _, K⟩ := R; K.nd
    refine ks_sortedI R (I2.ok.hd hc) (lenL (fun i j z => Sum.inl.inj z) nd m h64) m fun s' p out c k g o hp at2 hS => ?_
    refine laid s2 s' p out c _ I2 k g o hp at2 (vals_of_ints hS) ?_ q1
    rw [List.length_map, (sortI_perm _).length_eq]
    exact small64 h64
theorem ks_len {P : Program} {w : World} {A : Around} {E : Value → Shared → Prop} {s : Shared} {a : Addr} {L : List (Key × Value)} {Q : Value → Shared → Prop} (R : KS P w s.heap a L) (fin : ∀ t tk, Q (.int L.length t) { s with toks := tk }) : wpAny (model P w) A (call (.builtin "len") [.ref a]) Q E s := by
  obtain ⟨o, es, ep, t, at0, ex0, dat0, K⟩ := R
  refine call_len_set at0 ex0 dat0 K.fits (by rw [K.size]; have := K.few; unfold scanBound at this; omega) ?_
  rw [K.size]
  exact fin _ _
def tLenSetD (K : PySem.W.Frag) (ta : TE) : TE := fun σ H Q => ta σ H fun x H1 => ∃ (l : Addr) (xs : List Int), x = .ref l ∧ SqL K H1 l (xs.map V.int) ∧ xs.length < 4000 ∧ Q (.int (ddp xs).length) H1
theorem pe_lenSetD {a : Expr} {ta : TE} {p p2 q pos : Pos} (hg : Gl X "len") (hm : X.mg "len" = none) (hg2 : Gl X "set") (hm2 : X.mg "set" = none) (ha : PE X a ta) (hc : X.calm = true := by rfl)
    (na : starEach [a] X.env = (false, eval a X.env) :: starEach [] X.env := by rfl) : PE X (.Call (.Name "len" p) [.Call (.Name "set" p2) [a] [] q] [] pos) (tLenSetD X.K ta) := by
  refine ⟨fun pins s σ H Q I h => ?_⟩
  refine Call_ (ld_blt I hg hm boot_len ?_)
  refine PyProof.Rows.callWith_builtin1 (PyProof.Rows.args_cons ?_ rfl) rfl rfl
  refine Call_ (ld_blt I hg2 hm2 boot_set ?_)
  refine PyProof.Rows.callWith_type1 (PyProof.Rows.args_cons (thn (ha.run pins s σ H _ I h) fun v s1 ⟨x, H1, I1, r1, q1⟩ => PyProof.Rows.args_nil ?_) na) na rfl
  obtain ⟨l, xs, rfl, hq, hl, q1⟩ := q1
  cases r1
  obtain ⟨its, r, pl, hz⟩ := I1.list hq
  have el : its.toArray.size = (xs.map (Sum.inl : Int → Key)).length := by rw [List.size_toArray, ← r.length, List.length_map, List.length_map]
  refine ks_call (P := X.prog) (w := X.w) (xs.map Sum.inl) (I1.ok.hd hc) pl.isList el (by rw [List.length_map]; unfold scanBound; omega) (fun i v hv => vals_key (X := X) r (by rw [List.map_map] <;> rfl) i v (by simpa using hv)) fun h' tk L c1 c2 c3 c4 => ?_
  refine PyProof.Rows.args_nil ?_
  have I2 : Inv X pins σ H1 { s1 with heap := h', toks := tk } := I1.kept c4
  have nd : (L.map (·.1)).Nodup := let ⟨_, _, _, _, _, _, _, K⟩ := c1; K.nd
  have len : L.length = (ddp xs).length := by
    have p : (L.map (·.1)).Perm ((ddp xs).map Sum.inl) := (List.perm_ext_iff_of_nodup nd ((List.pairwise_map.mpr ((nodup_ddp xs).imp fun h z => h (Sum.inl.inj z))))).mpr fun j => by
      rw [c3 j, List.mem_map, List.mem_map]
      exact ⟨fun ⟨x, h1, h2⟩ => ⟨x, mem_ddp.mpr h1, h2⟩, fun ⟨x, h1, h2⟩ => ⟨x, mem_ddp.mp h1, h2⟩⟩
    have := p.length_eq
    rw [List.length_map, List.length_map] at this
    exact this
  refine ks_len (s := { s1 with heap := h', toks := tk }) c1 fun t tk2 => ?_
  rw [len]
  exact ⟨.int (ddp xs).length, H1, I2.tok _, ⟨_, rfl⟩, q1⟩
end
/-! ### over the store -/
def dSortSet (f : DE) : DE := fun ρ S => match f ρ S with
  | some (x, S1) => (match asL S1 x with
    | some ds => (match strsD ds with
      | some xs => if xs.length < 4000 ∧ (ddp xs).length < 64 then some (.lst .own ((sortS (ddp xs)).map .str), S1) else none
      | none => (match intsD ds with
        | some xs => if xs.length < 4000 ∧ (ddp xs).length < 64 then some (.lst .own ((sortI (ddp xs)).map .int), S1) else none
        | none => none))
    | none => none)
  | none => none
def dLenSet (f : DE) : DE := fun ρ S => match f ρ S with
  | some (x, S1) => (match asL S1 x with
    | some ds => (match intsD ds with
      | some xs => if xs.length < 4000 then some (.int (ddp xs).length, S1) else none
      | none => none)
    | none => none)
  | none => none
section
variable {X : Cx} {e a : Expr} {f : DE} {p p2 q pos : Pos}
theorem ed_sortSet (T : TB X.mg) (hg : Gl X "sorted") (hg2 : Gl X "set") (ha : ED X a f) (hc : X.calm = true := by rfl)
    (na : starEach [a] X.env = (false, eval a X.env) :: starEach [] X.env := by rfl) : ED X (.Call (.Name "sorted" p) [.Call (.Name "set" p2) [a] [] q] [] pos) (dSortSet f) :=
  .of (pe_sortSet hg T.sorted hg2 T.set ha.pe hc na) fun F S H ρ σ d S' Q hk R rr hf hq => by
    unfold dSortSet at hf
    split at hf
    · rename_i x S1 h1
      refine rdE.go hk R rr h1 fun F1 H1 v le hk1 R1 r1 rv => ?_
      split at hf
      · rename_i ds hL
        obtain ⟨a, us, rfl, hs, rl⟩ := asL_sq R1 rv hL
        rw [hk1] at hs
        refine ⟨a, rfl, ?_⟩
        split at hf
        · rename_i xs hx
          obtain ⟨⟨c1, c2⟩, hf⟩ := of_ite hf
          cases hf
          obtain rfl := strsD_ok rl hx
          exact .inl ⟨xs, hs, c1, c2, new_lst R1 (strs_rel _) fun F' H' v' le' R' rv' => hq F' H' v' (le.trans le') R' rv'⟩
        · split at hf
          · rename_i xs hx
            obtain ⟨⟨c1, c2⟩, hf⟩ := of_ite hf
            cases hf
            obtain rfl := intsD_ok rl hx
            exact .inr ⟨xs, hs, c1, c2, new_lst R1 (ints_rel _) fun F' H' v' le' R' rv' => hq F' H' v' (le.trans le') R' rv'⟩
          · cases hf
      · cases hf
    · cases hf
theorem ed_lenSet (T : TB X.mg) (hg : Gl X "len") (hg2 : Gl X "set") (ha : ED X a f) (hc : X.calm = true := by rfl)
    (na : starEach [a] X.env = (false, eval a X.env) :: starEach [] X.env := by rfl) : ED X (.Call (.Name "len" p) [.Call (.Name "set" p2) [a] [] q] [] pos) (dLenSet f) :=
  .of (pe_lenSetD hg T.len hg2 T.set ha.pe hc na) fun F S H ρ σ d S' Q hk R rr hf hq => by
    unfold dLenSet at hf
    split at hf
    · rename_i x S1 h1
      refine rdE.go hk R rr h1 fun F1 H1 v le hk1 R1 r1 rv => ?_
      split at hf
      · rename_i ds hL
        obtain ⟨a, us, rfl, hs, rl⟩ := asL_sq R1 rv hL
        rw [hk1] at hs
        split at hf
        · rename_i xs hx
          obtain ⟨c1, hf⟩ := of_ite hf
          cases hf
          obtain rfl := intsD_ok rl hx
          exact ⟨a, xs, rfl, hs, c1, hq F1 H1 _ le R1 rfl⟩
        · cases hf
      · cases hf
    · cases hf
end
end Dn

/-! x in (y, ..), data of any depth -/
namespace Dn
open PySem PySem.Spec PyProof.Rows L2
def rInTD (K : PySem.W.Frag) (neg : Bool) : R2 := fun x y H Q => ∃ d ds, Dp K H x d ∧ Dp K H y (.tuple ds) ∧ SeqAt.shaped d = true ∧ SeqAt.shaped (.tuple ds) = true ∧ Q (.bl (if neg then !ds.any (fun z => PyData.eqv z d) else ds.any fun z => PyData.eqv z d)) H
theorem op_inTD {X : Cx} (hu : X.A.units + 65 < cLine) : OpR X (compareOp .In) (rInTD X.K false) := by
  intro pins s σ H x y v u Q I rx ry h
  obtain ⟨d, ds, hd, he, sd, se, q⟩ := h
  obtain ⟨as, r1⟩ := Dp.reads I d x v hd rx
  obtain ⟨bs, r2⟩ := Dp.reads I (.tuple ds) y u he ry
  exact SeqAt.in_tuple_reads r2 r1 (SeqAt.canLay_of_shaped se) (SeqAt.canLay_of_shaped sd) (room_in_shaped sd hu) ⟨.bl _, H, I, rfl, q⟩
theorem op_notInTD {X : Cx} (hu : X.A.units + 65 < cLine) : OpR X (compareOp .NotIn) (rInTD X.K true) := by
  intro pins s σ H x y v u Q I rx ry h
  obtain ⟨d, ds, hd, he, sd, se, q⟩ := h
  obtain ⟨as, r1⟩ := Dp.reads I d x v hd rx
  obtain ⟨bs, r2⟩ := Dp.reads I (.tuple ds) y u he ry
  exact SeqAt.notIn_tuple_reads r2 r1 (SeqAt.canLay_of_shaped se) (SeqAt.canLay_of_shaped sd) (room_in_shaped sd hu) ⟨.bl _, H, I, rfl, q⟩
def pInT (neg : Bool) : P2 := fun x y S => match y with
  | .tup ds => (match toPy x, toPyL ds with
    | some d, some es => if SeqAt.shaped d = true ∧ SeqAt.shaped (.tuple es) = true then some (.bl (if neg then !es.any (fun z => PyData.eqv z d) else es.any fun z => PyData.eqv z d), S) else none
    | _, _ => none)
  | _ => none
theorem ok_inT {K : PySem.W.Frag} {neg : Bool} : Ok2 K (pInT neg) (rInTD K neg) := fun F S H x y vx vy d S' Q hk R rx ry hp hq => by
  unfold pInT at hp
  split at hp
  · rename_i ds
    split at hp
    · rename_i e es he hes
      obtain ⟨⟨s1, s2⟩, h3⟩ := of_ite hp
      cases h3
      have ry' : Rel F (.tup ds) vy := ry
      have hG : Same F.G H := R.g
      have wk : Wk F { F with B := H } := ⟨rfl, R.b, Same.refl _, List.prefix_refl _⟩
      have d1 := toPy_dp (F := { F with B := H }) hG (Same.refl _) x vx e (rx.wk wk) he
      have d2 := toPy_dp (F := { F with B := H }) hG (Same.refl _) (.tup ds) vy (.tuple es) (ry'.wk wk) (by show (match toPyL ds with | some es => some (PyData.tuple es) | none => none) = _; rw [hes])
      rw [← hk]
      exact ⟨e, es, d1, d2, s1, s2, hq F H _ (.refl F) R rfl⟩
    · cases hp
  · cases hp
section
variable {X : Cx} {a b : Expr} {f g : DE} {pos : Pos}
theorem hu65' {k : Nat} {A : Around} (hr : Room k A) : A.units + 65 < cLine := by have := hr.un; omega
theorem ed_inT {k : Nat} (hr : Room k X.A) (ha : ED X a f) (hb : ED X b g) (hm : behindInMarks .In b = false) : ED X (.Compare a [.In] [b] pos) (dBin (pInT false) f g) := ed_cmp (op_inTD (hu65' hr)) ok_inT ha hb hm
theorem td_inT {k : Nat} (hr : Room k X.A) (ha : ED X a f) (hb : ED X b g) (hm : behindInMarks .In b = false) : TD X (.Compare a [.In] [b] pos) (dBin (pInT false) f g) := td_cmp (op_inTD (hu65' hr)) ok_inT ha hb hm
end
end Dn

/-! (x, ..) * k -/
namespace Dn
open PySem PySem.Spec PyProof.Rows L2
theorem tup_mul0 (l : Addr) (n : Nat) (dd : Option Addr) (sl : Array (Option Value)) (x : Int) (u : Tok) (c0 : (decide (x < -(2 ^ 63)) || decide (x ≥ 2 ^ 63)) = false) :
    Meets (Builtin.«tuple.__mul__» ⟨[.ref l, .int x u], []⟩) (fun _ R s => s.heap.get? l = some { cls := .type "tuple", dict := dd, data := .seq #[] n, slots := sl } ∧ R (.ok (.ret (Value.ref l))) s) :=
  .of_wp fun prog w A R s hyp => by
    obtain ⟨hp, g, d, tk, os⟩ := s
    obtain ⟨at0, fin⟩ := hyp
    have f1 := AutoSeq1.idx_int
    have f2 : (Array.isEmpty (#[] : Array Value) || x == 1) = true := rfl
    wp_walk using PySem.AutoSeq1.wpAny_loadPart' at0
    repeat (first
      | (refine wpAny_ite_false (decide_eq_false (by rw [c0]; exact Bool.false_ne_true)) ?_; wp_walk using PySem.AutoSeq1.wpAny_loadPart' at0)
      | (refine wpAny_ite_true (decide_eq_true f2) ?_; wp_walk using PySem.AutoSeq1.wpAny_loadPart' at0))
    exact ⟨_, rfl, fin⟩
/-- () * k is () -/
def rRepT0 (K : PySem.W.Frag) : R2 := fun x y H Q => ∃ l k, x = .ref l ∧ y = .int k ∧ SqT K H l [] ∧ 2 ≤ k ∧ k ≤ 1000 ∧ Q (.ref l) H
section
variable {X : Cx}
theorem op_repT0 : OpR X (binaryOp .Mult) (rRepT0 X.K) := by
  intro pins s σ H x y v u Q I rx ry h
  obtain ⟨l, k, rfl, rfl, hT, k2, k3, q⟩ := h
  cases rx
  obtain ⟨t, rfl⟩ := ry
  obtain ⟨its, r, ⟨⟨cls, dd, data, sl⟩, at0, ec, n, ed⟩, hs⟩ := I.tuple hT
  cases r
  simp only at ec ed
  subst ec ed
  have c0 : (decide (k < -(2 ^ 63)) || decide (k ≥ 2 ^ 63)) = false := by
    rw [decide_eq_false (by omega), Bool.false_or]
    exact decide_eq_false (by omega)
  exact wpAny_binaryOp_repeat_ref (T := "tuple") (U := "int") (by decide) ⟨_, at0, rfl⟩ (fun s' => typeIs_int s' k t) noFill_tuple_mul F.fills_int_mul F.slot_int_rmul repeat_tuple F.slot_int_index.lookup
    (call_meets F.slot_int_rmul (typeIs_int s k t) F.entry_int_rmul (F.args_int_rmul_2 _ _) (int_rmul_tuple k t l #[] n dd sl)
      ⟨at0, rfl, ⟨_, at0, rfl⟩, call_meets F.slot_tuple_mul ⟨_, at0, rfl⟩ F.entry_tuple_mul (F.args_tuple_mul_2 _ _) (tup_mul0 l n dd sl k t c0) ⟨at0, ⟨.ref l, H, I, rfl, q⟩⟩⟩)
def pMulT : P2 := fun x y S => match x, y with
  | .tup xs, .int k => if 2 ≤ k ∧ k ≤ 1000 ∧ xs.length ≤ 1000 then some (.tup (repD xs k.toNat), S) else none
  | _, _ => none
theorem rep_nil (n : Nat) : repD ([] : List DV) n = [] := by
  unfold repD
  induction n with
  | zero => rfl
  | succ n ih =>
    rw [List.replicate_succ, List.flatten_cons, ih]
    rfl
theorem ok_mulT {K : PySem.W.Frag} : Ok2 K pMulT (fun x y H Q => rRepT K x y H Q ∨ rRepT0 K x y H Q) := fun F S H x y vx vy d S' Q hk R rx ry hp hq => by
  unfold pMulT at hp
  split at hp
  · rename_i xs k
    obtain ⟨⟨h1, h2, h3⟩, hp⟩ := of_ite hp
    cases hp
    obtain ⟨a, us, rfl, hs, rl⟩ := tup_sq R rx
    rw [hk] at hs
    have ey := (show vy = .int k from ry)
    subst ey
    cases xs with
    | nil =>
      have e : us = [] := rl
      subst e
      exact .inr ⟨a, k, rfl, rfl, hs, h1, h2, hq F H _ (.refl F) R (by rw [rep_nil]; exact rx)⟩
    | cons x0 xs =>
      refine .inl ⟨a, k, us, rfl, rfl, hs, fun e => ?_, h1, h2, by rw [← rl.length]; exact h3, new_tup R (rl.rep k.toNat) hq⟩
      have := rl.length
      rw [e] at this
      cases this
  · cases hp
theorem ed_mulT {a b : Expr} {f g : DE} {pos : Pos} (ha : ED X a f) (hb : ED X b g) : ED X (.BinOp a .Mult b pos) (dBin pMulT f g) := ed_bin (op_repT.or op_repT0) ok_mulT ha hb
end
end Dn

namespace Lk34
open PySem PySem.Spec PyProof.Rows L2 Dn
def top (i : Nat) : Stmt := PySem.Challenge.pw_dimhouse_k34_whole_spoilt_by_a_way.main.body.getD i (.Pass ⟨0, 0, 0, 0⟩)
def t_TOUCHES : List (Str × He.Dv) := [("load", .int 2), ("store", .int 1), ("take", .int 2), ("lay", .int 1)]
abbrev s_ways_of : Stmt := top 1
abbrev s_ways : Stmt := top 2
abbrev s_place_rows : Stmt := top 5
abbrev s_may_spoil : Stmt := top 6
abbrev s_touch : Stmt := top 7
abbrev s_behind : Stmt := top 8
abbrev s_led_by : Stmt := top 9
abbrev s_spoilt : Stmt := top 10
abbrev s_law_cell_at : Stmt := top 12
abbrev s_law_rich : Stmt := top 13
abbrev s_law_big : Stmt := top 14
abbrev s_law_digits : Stmt := top 15
abbrev s_law_names : Stmt := top 16
abbrev s_law_world : Stmt := top 17
abbrev s_law_row : Stmt := top 18
abbrev s_law_program : Stmt := top 19
abbrev s_law_some : Stmt := top 20
abbrev s_law_cutting : Stmt := top 21
abbrev s_law_pool : Stmt := top 22
abbrev s_law_exits : Stmt := top 23
abbrev s_law_whole : Stmt := top 24
abbrev s_law_is_piece : Stmt := top 25
abbrev s_law_spoils : Stmt := top 26
abbrev s_law_reached : Stmt := top 27
abbrev s_law_may : Stmt := top 28
abbrev s_law : Stmt := top 29
def b_ways_of : DS := (dSeq (dIfS (dBin (pEq false) (dBin pIx (dVar 0) (dC (.int 0))) (dC (.str "end"))) (dRet (dPrim pTup aNil)) dNext)
  (dSeq (dIfS (dBin (pEq false) (dBin pIx (dVar 0) (dC (.int 0))) (dC (.str "go"))) (dRet (dPrim pTup (aCons (dBin pIx (dVar 0) (dC (.int 1))) aNil))) dNext)
  (dSeq (dIfS (dBin (pEq false) (dBin pIx (dVar 0) (dC (.int 0))) (dC (.str "if"))) (dRet (dPrim pTup (aCons (dBin pIx (dVar 0) (dC (.int 2))) (aCons (dBin pAdd (dVar 1) (dC (.int 1))) aNil)))) dNext)
  (dRet (dPrim pTup (aCons (dBin pAdd (dVar 1) (dC (.int 1))) aNil))))))
def F_ways_of : PL := runF 2 2 b_ways_of
def b_ways : DS := (dRet (dLc (iEnum2 (aCons (dBin pIx (dVar 0) (dC (.int 2))) aNil)) (gTupD 2 (gsCons (gSet 1) (gsCons (gSet 2) gsNil))) (dC (.bl true)) (dPrim (cP (pureOf F_ways_of) []) (aCons (dVar 2) (aCons (dVar 1) aNil))) [1, 2]))
def F_ways : PL := runF 1 3 b_ways
def b_place_rows : DS := (dRet (dBin pAdd (dPrim pLst (aCons (dC (.int 0)) aNil)) (dLc (iSeq (dBin pIx (dVar 0) (dC (.int 1)))) (gTupD 2 (gsCons (gSet 1) (gsCons (gSet 2) gsNil))) (dC (.bl true)) (dVar 1) [1, 2])))
def F_place_rows : PL := runF 1 3 b_place_rows
def b_may_spoil : DS := (dSeq (dFor (iSeq (dBin pAdd (dBin pIx (dVar 0) (dC (.int 0))) (dBin pIx (dVar 0) (dC (.int 1))))) (gSet 2) (dIfS (dBin (pEq false) (dBin pIx (dVar 2) (dC (.int 0))) (dVar 1)) (dRet (dNot (dBin pIx (dVar 2) (dC (.int 2))))) dNext))
  (dRet (dC (.bl false))))
def F_may_spoil : PL := runF 2 3 b_may_spoil
def b_touch : DS := (dSeq (dIfS (dAnd (dTabIn false t_TOUCHES (dBin pIx (dVar 0) (dC (.int 0)))) (dBin (pEq false) (dBin pIx (dVar 0) (dTabIx t_TOUCHES (dBin pIx (dVar 0) (dC (.int 0))))) (dVar 1))) (dRet (dBin pIx (dVar 0) (dC (.int 0)))) dNext)
  (dRet (dC (.str ""))))
def F_touch : PL := runF 2 2 b_touch
def b_behind : DS := (dSeq (dIfS (dAnd (dBin (pEq false) (dVar 0) (dC (.str "store"))) (dNot (dVar 1))) (dRet (dC .non)) dNext)
  (dRet (dOr (dVar 1) (dOr (dBin (pEq false) (dVar 0) (dC (.str "load"))) (dBin (pEq false) (dVar 0) (dC (.str "take")))))))
def F_behind : PL := runF 2 2 b_behind
def b_led_by : DS := (dSeq (dSet 2 (dPrim pLstM aNil))
  (dSeq (whileL (dBin (pIs true) (dVar 1) (dC .non)) (dSeq (dExpr (dMt pAppend (dVar 2) (aCons (dBin pIx (dVar 1) (dC (.int 0))) aNil)))
  (dSet 1 (dBin pLfIx (dVar 0) (dVar 1)))) 100000)
  (dSeq (dExpr (dMt pReverse (dVar 2) aNil))
  (dRet (dVar 2)))))
def F_led_by : PL := runF 2 3 b_led_by
def b_spoilt : DS := (dSeq (dIfS (dNot (dPrim (cP (pureOf F_may_spoil) []) (aCons (dVar 0) (aCons (dVar 2) aNil)))) (dRet (dC .non)) dNext)
  (dSeq (dSet 3 (dPrim (cP (pureOf F_ways) []) (aCons (dVar 0) aNil)))
  (dSeq (dSet 4 (dPrim (cP (pureOf F_place_rows) []) (aCons (dVar 1) aNil)))
  (dSeq (dSet 5 (dSl pSl (dVar 4) (oSome (dC (.int 1))) oNone))
  (dSeq (dSet 6 dLfNew)
  (dSeq (dFor (iSeq (dVar 4)) (gSet 7) (dLfSub (dC .non) (dVar 6) (dPrim pTup (aCons (dVar 7) (aCons (dC (.bl false)) aNil)))))
  (dSeq (dSet 8 (dPrim pLfList (aCons (dVar 6) aNil)))
  (dSeq (whileL (dBin pGt (dPrim pLen (aCons (dVar 8) aNil)) (dC (.int 0))) (dSeq (dSet 9 (dMt pPopAt (dVar 8) (aCons (dC (.int 0)) aNil)))
  (dSeq (dSet 10 (dPrim (cP (pureOf F_touch) []) (aCons (dBin pIx (dBin pIx (dVar 0) (dC (.int 2))) (dBin pIx (dVar 9) (dC (.int 0)))) (aCons (dVar 2) aNil))))
  (dSeq (dIfS (dAnd (dBin pIx (dVar 9) (dC (.int 1))) (dBin (pIn false) (dVar 10) (dPrim pTup (aCons (dC (.str "store")) (aCons (dC (.str "lay")) aNil))))) (dRet (dPrim (cS F_led_by []) (aCons (dVar 6) (aCons (dVar 9) aNil)))) dNext)
  (dSeq (dSet 11 (dPrim (cP (pureOf F_behind) []) (aCons (dVar 10) (aCons (dBin pIx (dVar 9) (dC (.int 1))) aNil))))
  (dIfS (dBin (pIs true) (dVar 11) (dC .non)) (dFor (iSeq (dBin pIx (dVar 3) (dBin pIx (dVar 9) (dC (.int 0))))) (gSet 12) (dIfS (dAnd (dBin (pIn true) (dVar 12) (dVar 5)) (dBin (pLfIn true) (dPrim pTup (aCons (dVar 12) (aCons (dVar 11) aNil))) (dVar 6))) (dSeq (dLfSub (dVar 9) (dVar 6) (dPrim pTup (aCons (dVar 12) (aCons (dVar 11) aNil))))
  (dExpr (dMt pAppend (dVar 8) (aCons (dPrim pTup (aCons (dVar 12) (aCons (dVar 11) aNil))) aNil)))) dNext)) dNext))))) 100000)
  (dRet (dC .non))))))))))
def F_spoilt : PL := runF 3 13 b_spoilt
def b_law_cell_at : DS := (dSeq (dIfS (dBin pLt (dVar 1) (dPrim pLen (aCons (dVar 0) aNil))) (dRet (dBin pIx (dVar 0) (dVar 1))) dNext)
  (dRet (dC (.int 0))))
def F_law_cell_at : PL := runF 2 2 b_law_cell_at
def b_law_rich : DS := (dSeq (dSet 2 (dC (.int 0)))
  (dSeq (dSet 3 (dBin pAdd (dBin pAdd (dBin pMod (dVar 0) (dC (.int 2147483629))) (dBin pMul (dC (.int 48271)) (dVar 1))) (dC (.int 11))))
  (dSeq (dFor (iRange1 (aCons (dC (.int 15)) aNil)) (gSet 4) (dSeq (dSet 3 (dBin pMod (dBin pAdd (dBin pAdd (dBin pMul (dVar 3) (dVar 3)) (dBin pMul (dC (.int 69621)) (dVar 3))) (dVar 4)) (dC (.int 2147483629))))
  (dSeq (dSet 3 (dBin pMod (dBin pAdd (dBin pAdd (dBin pMul (dVar 3) (dC (.int 16807))) (dBin pMul (dC (.int 7919)) (dVar 4))) (dVar 1)) (dC (.int 2147483587))))
  (dSet 2 (dBin pAdd (dBin pMul (dVar 2) (dC (.int 2147483587))) (dVar 3))))))
  (dRet (dVar 2)))))
def F_law_rich : PL := runF 2 5 b_law_rich
def b_law_big : DS := (dSeq (dIfS (dBin (pEq false) (dBin pMod (dPrim (cP (pureOf F_law_cell_at) []) (aCons (dVar 0) (aCons (dC (.int 0)) aNil))) (dC (.int 2))) (dC (.int 0))) (dRet (dPrim (cP (pureOf F_law_cell_at) []) (aCons (dVar 0) (aCons (dVar 1) aNil)))) dNext)
  (dRet (dPrim (cP (pureOf F_law_rich) []) (aCons (dPrim (cP (pureOf F_law_cell_at) []) (aCons (dVar 0) (aCons (dVar 1) aNil))) (aCons (dVar 1) aNil)))))
def F_law_big : PL := runF 2 2 b_law_big
def b_law_digits : DS := (dSeq (dSet 2 (dPrim pLstM aNil))
  (dSeq (dFor (iSeq (dVar 1)) (gSet 3) (dSeq (dExpr (dMt pAppend (dVar 2) (aCons (dBin pMod (dVar 0) (dVar 3)) aNil)))
  (dSet 0 (dBin pDiv (dVar 0) (dVar 3)))))
  (dRet (dVar 2))))
def F_law_digits : PL := runF 2 4 b_law_digits
def b_law_names : DS := (dSeq (dSet 2 (dC (.str "abcdefghijklmnopqrstuvwxyz")))
  (dSeq (dSet 3 (dPrim pLstM aNil))
  (dSeq (whileL (dBin pLt (dPrim pLen (aCons (dVar 3) aNil)) (dVar 1)) (dSeq (dSet 4 (dPrim (cP (pureOf F_law_digits) []) (aCons (dVar 0) (aCons (dPrim pLst (aCons (dC (.int 6)) (aCons (dC (.int 26)) (aCons (dC (.int 26)) (aCons (dC (.int 26)) (aCons (dC (.int 26)) (aCons (dC (.int 26)) (aCons (dC (.int 26)) aNil)))))))) aNil))))
  (dSeq (dSet 5 (dM1 pJoin (dC (.str "")) (dLc (iRange1 (aCons (dBin pAdd (dC (.int 1)) (dBin pIx (dVar 4) (dC (.int 0)))) aNil)) (gSet 6) (dC (.bl true)) (dBin pIx (dVar 2) (dBin pIx (dVar 4) (dBin pAdd (dC (.int 1)) (dVar 6)))) [6])))
  (dSeq (dSet 0 (dBin pDiv (dVar 0) (dBin pMul (dC (.int 6)) (dBin pPow (dC (.int 26)) (dC (.int 6))))))
  (dSeq (whileL (dBin (pIn false) (dVar 5) (dVar 3)) (dSet 5 (dBin pAdd (dSl pSl (dVar 5) oNone (oSome (dUn pNeg (dC (.int 1))))) (dBin pIx (dVar 2) (dBin pMod (dBin pAdd (dM1 pSIdx (dVar 2) (dBin pIx (dVar 5) (dUn pNeg (dC (.int 1))))) (dC (.int 1))) (dC (.int 26)))))) 100000)
  (dExpr (dMt pAppend (dVar 3) (aCons (dVar 5) aNil))))))) 100000)
  (dRet (dVar 3)))))
def F_law_names : PL := runF 2 7 b_law_names
def b_law_world : DS := (dSeq (dSet 1 (dPrim (cP (pureOf F_law_big) []) (aCons (dVar 0) (aCons (dC (.int 3)) aNil))))
  (dSeq (dAsg (dPrim (cP (pureOf F_law_digits) []) (aCons (dVar 1) (aCons (dPrim pLst (aCons (dC (.int 9)) (aCons (dC (.int 5)) (aCons (dC (.int 12)) aNil)))) aNil))) (gLstD 3 (gsCons (gSet 6) (gsCons (gSet 7) (gsCons (gSet 8) gsNil)))))
  (dSeq (dSet 1 (dBin pDiv (dVar 1) (dC (.int 540))))
  (dSeq (dSet 2 (dPrim (cP (pureOf F_law_names) []) (aCons (dPrim (cP (pureOf F_law_big) []) (aCons (dVar 0) (aCons (dBin pIx (dPrim pLst (aCons (dC (.int 1)) (aCons (dC (.int 1)) (aCons (dC (.int 2)) aNil)))) (dBin pMod (dBin pDiv (dPrim (cP (pureOf F_law_cell_at) []) (aCons (dVar 0) (aCons (dC (.int 0)) aNil))) (dC (.int 2))) (dC (.int 3)))) aNil))) (aCons (dC (.int 12)) aNil))))
  (dSeq (dSet 3 (dPrim pLstM aNil))
  (dSeq (dFor (iRange1 (aCons (dVar 6) aNil)) (gSet 4) (dSeq (dExpr (dMt pAppend (dVar 3) (aCons (dPrim pTup (aCons (dBin pIx (dVar 2) (dVar 4)) (aCons (dBin pMod (dVar 1) (dBin pPow (dC (.int 2)) (dC (.int 40)))) (aCons (dBin (pEq false) (dBin pMod (dBin pDiv (dVar 1) (dBin pPow (dC (.int 2)) (dC (.int 40)))) (dC (.int 2))) (dC (.int 1))) aNil)))) aNil)))
  (dSet 1 (dBin pDiv (dVar 1) (dBin pPow (dC (.int 2)) (dC (.int 41)))))))
  (dSeq (dSet 5 (dPrim pLstM aNil))
  (dSeq (dFor (iRange1 (aCons (dVar 7) aNil)) (gSet 4) (dSeq (dExpr (dMt pAppend (dVar 5) (aCons (dPrim pTup (aCons (dBin pIx (dVar 2) (dBin pAdd (dC (.int 8)) (dVar 4))) (aCons (dBin pAdd (dC (.int 1)) (dBin pMod (dVar 1) (dC (.int 8)))) (aCons (dBin (pEq false) (dBin pMod (dBin pDiv (dVar 1) (dC (.int 8))) (dC (.int 2))) (dC (.int 1))) aNil)))) aNil)))
  (dSet 1 (dBin pDiv (dVar 1) (dC (.int 16))))))
  (dRet (dPrim pTup (aCons (dPrim (cP (pureOf F_law_names) []) (aCons (dPrim (cP (pureOf F_law_big) []) (aCons (dVar 0) (aCons (dC (.int 2)) aNil))) (aCons (dBin pAdd (dC (.int 1)) (dVar 8)) aNil))) (aCons (dPrim pTuple (aCons (dVar 3) aNil)) (aCons (dPrim pTuple (aCons (dVar 5) aNil)) (aCons (dVar 1) aNil))))))))))))))
def F_law_world : PL := runF 1 9 b_law_world
def b_law_row : DS := (dSeq (dAsg (dVar 1) (gTupD 4 (gsCons (gSet 9) (gsCons (gSet 10) (gsCons (gSet 11) (gsCons (gSet 12) gsNil))))))
  (dSeq (dSet 3 (dPrim pLst (aCons (dC (.int 11)) (aCons (dPrim pLen (aCons (dVar 9) aNil)) (aCons (dPrim pMax (aCons (dC (.int 1)) (aCons (dPrim pLen (aCons (dVar 10) aNil)) aNil))) (aCons (dPrim pMax (aCons (dC (.int 1)) (aCons (dPrim pLen (aCons (dVar 11) aNil)) aNil))) (aCons (dC (.int 8)) (aCons (dVar 2) aNil))))))))
  (dSeq (dAsg (dPrim (cP (pureOf F_law_digits) []) (aCons (dVar 0) (aCons (dVar 3) aNil))) (gLstD 6 (gsCons (gSet 13) (gsCons (gSet 14) (gsCons (gSet 15) (gsCons (gSet 16) (gsCons (gSet 17) (gsCons (gSet 18) gsNil))))))))
  (dSeq (dFor (iSeq (dVar 3)) (gSet 4) (dSet 0 (dBin pDiv (dVar 0) (dVar 4))))
  (dSeq (dSet 5 (dPrim (cP (pureOf F_law_digits) []) (aCons (dVar 0) (aCons (dPrim pLst (aCons (dBin pAdd (dPrim pLen (aCons (dVar 9) aNil)) (dC (.int 1))) (aCons (dBin pPow (dC (.int 2)) (dC (.int 40))) (aCons (dBin pAdd (dPrim pLen (aCons (dVar 9) aNil)) (dC (.int 1))) (aCons (dBin pPow (dC (.int 2)) (dC (.int 40))) aNil))))) aNil))))
  (dSeq (dSet 6 (dBin pIx (dBin pAdd (dVar 9) (dPrim pLst (aCons (dBin pIx (dVar 5) (dC (.int 1))) aNil))) (dBin pIx (dVar 5) (dC (.int 0)))))
  (dSeq (dSet 7 (dBin pIx (dBin pAdd (dVar 9) (dPrim pLst (aCons (dBin pIx (dVar 5) (dC (.int 3))) aNil))) (dBin pIx (dVar 5) (dC (.int 2)))))
  (dSeq (dIfS (dAnd (dBin (pIn false) (dVar 13) (dPrim pTup (aCons (dC (.int 2)) (aCons (dC (.int 3)) aNil)))) (dBin (pEq true) (dVar 10) (dPrim pTup aNil))) (dRet (dBin pIx (dPrim pLst (aCons (dPrim pTup (aCons (dC (.str "load")) (aCons (dBin pIx (dVar 9) (dVar 14)) (aCons (dBin pIx (dBin pIx (dVar 10) (dVar 15)) (dC (.int 0))) aNil)))) (aCons (dPrim pTup (aCons (dC (.str "store")) (aCons (dBin pIx (dBin pIx (dVar 10) (dVar 15)) (dC (.int 0))) (aCons (dVar 6) aNil)))) aNil))) (dBin pSub (dVar 13) (dC (.int 2))))) dNext)
  (dSeq (dIfS (dAnd (dBin (pIn false) (dVar 13) (dPrim pTup (aCons (dC (.int 4)) (aCons (dC (.int 5)) aNil)))) (dBin (pEq true) (dVar 11) (dPrim pTup aNil))) (dRet (dBin pIx (dPrim pLst (aCons (dPrim pTup (aCons (dC (.str "take")) (aCons (dBin pIx (dVar 9) (dVar 14)) (aCons (dBin pIx (dBin pIx (dVar 11) (dVar 16)) (dC (.int 0))) (aCons (dVar 6) aNil))))) (aCons (dPrim pTup (aCons (dC (.str "lay")) (aCons (dBin pIx (dBin pIx (dVar 11) (dVar 16)) (dC (.int 0))) (aCons (dVar 6) (aCons (dVar 7) aNil))))) aNil))) (dBin pSub (dVar 13) (dC (.int 4))))) dNext)
  (dSeq (dIfS (dBin (pEq false) (dVar 13) (dC (.int 1))) (dRet (dPrim pTup (aCons (dC (.str "op")) (aCons (dBin pIx (dVar 9) (dVar 14)) (aCons (dBin pIx (dC (.str "+-*<=&|^")) (dVar 17)) (aCons (dVar 6) (aCons (dVar 7) aNil))))))) dNext)
  (dSeq (dSet 8 (dPrim pLst (aCons (dPrim pTup (aCons (dC (.str "hear")) (aCons (dBin pIx (dVar 9) (dVar 14)) aNil))) (aCons (dPrim pTup (aCons (dC (.str "say")) (aCons (dVar 6) aNil))) (aCons (dPrim pTup (aCons (dC (.str "if")) (aCons (dVar 6) (aCons (dVar 18) aNil)))) (aCons (dPrim pTup (aCons (dC (.str "go")) (aCons (dVar 18) aNil))) (aCons (dPrim pTup (aCons (dC (.str "end")) (aCons (dVar 6) aNil))) aNil)))))))
  (dSeq (dIfS (dBin pGt (dVar 13) (dC (.int 5))) (dRet (dBin pIx (dVar 8) (dBin pSub (dVar 13) (dC (.int 6))))) dNext)
  (dRet (dPrim pTup (aCons (dC (.str "copy")) (aCons (dBin pIx (dVar 9) (dVar 14)) (aCons (dVar 6) aNil)))))))))))))))))
def F_law_row : PL := runF 3 19 b_law_row
def b_law_program : DS := (dSeq (dSet 2 (dPrim (cP (pureOf F_law_world) []) (aCons (dVar 0) aNil)))
  (dSeq (dSet 3 (dPrim pMax (aCons (dC (.int 1)) (aCons (dPrim pMin (aCons (dBin pSub (dPrim pLen (aCons (dVar 0) aNil)) (dC (.int 5))) (aCons (dBin pAdd (dC (.int 1)) (dVar 1)) aNil))) aNil))))
  (dSeq (dSet 4 (dLcM (iRange1 (aCons (dBin pSub (dVar 3) (dC (.int 1))) aNil)) (gSet 9) (dC (.bl true)) (dPrim (cP (pureOf F_law_row) []) (aCons (dPrim (cP (pureOf F_law_big) []) (aCons (dVar 0) (aCons (dBin pAdd (dC (.int 6)) (dVar 9)) aNil))) (aCons (dVar 2) (aCons (dVar 3) aNil)))) [9]))
  (dSeq (dAsg (dPrim (cP (pureOf F_law_digits) []) (aCons (dBin pIx (dVar 2) (dC (.int 3))) (aCons (dPrim pLst (aCons (dC (.int 2)) (aCons (dVar 3) (aCons (dBin pAdd (dPrim pLen (aCons (dBin pIx (dVar 2) (dC (.int 0))) aNil)) (dC (.int 1))) (aCons (dBin pPow (dC (.int 2)) (dC (.int 40))) aNil))))) aNil))) (gLstD 4 (gsCons (gSet 5) (gsCons (gSet 6) (gsCons (gSet 7) (gsCons (gSet 8) gsNil))))))
  (dSeq (dExpr (dMt pAppend (dVar 4) (aCons (dBin pIx (dPrim pLst (aCons (dPrim pTup (aCons (dC (.str "end")) (aCons (dBin pIx (dBin pAdd (dBin pIx (dVar 2) (dC (.int 0))) (dPrim pLst (aCons (dVar 8) aNil))) (dVar 7)) aNil))) (aCons (dPrim pTup (aCons (dC (.str "go")) (aCons (dVar 6) aNil))) aNil))) (dVar 5)) aNil)))
  (dRet (dPrim pTup (aCons (dBin pIx (dVar 2) (dC (.int 1))) (aCons (dBin pIx (dVar 2) (dC (.int 2))) (aCons (dPrim pTuple (aCons (dVar 4) aNil)) aNil))))))))))
def F_law_program : PL := runF 2 10 b_law_program
def b_law_some : DS := (dRet (dPrim pTuple (aCons (dLc (iRange1 (aCons (dPrim pLen (aCons (dVar 0) aNil)) aNil)) (gSet 2) (dBin (pEq false) (dBin pMod (dBin pDiv (dVar 1) (dBin pShl (dC (.int 1)) (dVar 2))) (dC (.int 2))) (dC (.int 1))) (dBin pIx (dVar 0) (dVar 2)) [2]) aNil)))
def F_law_some : PL := runF 2 3 b_law_some
def b_law_cutting : DS := (dSeq (dSet 3 (dPrim (cP (pureOf F_law_big) []) (aCons (dVar 0) (aCons (dC (.int 4)) aNil))))
  (dSeq (dSet 4 (dPrim (cP (pureOf F_law_some) []) (aCons (dVar 2) (aCons (dVar 3) aNil))))
  (dSeq (dSet 3 (dBin pDiv (dVar 3) (dBin pShl (dC (.int 1)) (dPrim pLen (aCons (dVar 2) aNil)))))
  (dSeq (dSet 5 (dC (.int 2)))
  (dSeq (dSet 6 (dPrim pLstM aNil))
  (dSeq (dFor (iRange1 (aCons (dPrim pLen (aCons (dBin pIx (dVar 1) (dC (.int 2))) aNil)) aNil)) (gSet 7) (dSeq (dIfS (dBin (pEq false) (dBin pMod (dPrim (cP (pureOf F_law_cell_at) []) (aCons (dVar 0) (aCons (dC (.int 0)) aNil))) (dC (.int 2))) (dC (.int 1))) (dSeq (dSet 3 (dPrim (cP (pureOf F_law_rich) []) (aCons (dVar 3) (aCons (dVar 7) aNil))))
  (dSet 5 (dBin pIx (dPrim pLst (aCons (dC (.int 2)) (aCons (dC (.int 4)) (aCons (dC (.int 8)) aNil)))) (dBin pMod (dBin pDiv (dPrim (cP (pureOf F_law_cell_at) []) (aCons (dVar 0) (aCons (dC (.int 0)) aNil))) (dC (.int 6))) (dC (.int 3)))))) dNext)
  (dSeq (dIfS (dBin (pEq false) (dBin pMod (dVar 3) (dVar 5)) (dC (.int 1))) (dExpr (dMt pAppend (dVar 6) (aCons (dPrim pTup (aCons (dVar 7) (aCons (dPrim (cP (pureOf F_law_some) []) (aCons (dVar 2) (aCons (dBin pDiv (dVar 3) (dVar 5)) aNil))) aNil))) aNil))) dNext)
  (dSet 3 (dBin pDiv (dBin pDiv (dVar 3) (dVar 5)) (dBin pShl (dC (.int 1)) (dPrim pLen (aCons (dVar 2) aNil))))))))
  (dRet (dPrim pTup (aCons (dVar 4) (aCons (dPrim pTuple (aCons (dVar 6) aNil)) aNil))))))))))
def F_law_cutting : PL := runF 3 8 b_law_cutting
def b_law_pool : DS := (dSeq (dAsg (dPrim (cP (pureOf F_law_world) []) (aCons (dVar 0) aNil)) (gTupD 4 (gsCons (gSet 1) (gsCons (gSet 2) (gsCons (gSet 3) (gsCons (gSet 4) gsNil))))))
  (dRet (dSortSet (dBin pAdd (dBin pAdd (dVar 1) (dLc (iSeq (dSl pSl (dVar 2) oNone (oSome (dC (.int 1))))) (gSet 5) (dC (.bl true)) (dBin pIx (dVar 5) (dC (.int 0))) [5])) (dPrim pLst (aCons (dC (.str "zz")) aNil))))))
def F_law_pool : PL := runF 1 6 b_law_pool
def b_law_exits : DS := (dSeq (dIfS (dBin (pEq false) (dBin pIx (dBin pIx (dVar 0) (dVar 1)) (dC (.int 0))) (dC (.str "end"))) (dRet (dPrim pLst aNil)) dNext)
  (dSeq (dIfS (dBin (pEq false) (dBin pIx (dBin pIx (dVar 0) (dVar 1)) (dC (.int 0))) (dC (.str "go"))) (dRet (dPrim pLst (aCons (dBin pIx (dBin pIx (dVar 0) (dVar 1)) (dC (.int 1))) aNil))) dNext)
  (dSeq (dIfS (dBin (pEq false) (dBin pIx (dBin pIx (dVar 0) (dVar 1)) (dC (.int 0))) (dC (.str "if"))) (dRet (dPrim pLst (aCons (dBin pIx (dBin pIx (dVar 0) (dVar 1)) (dC (.int 2))) (aCons (dBin pAdd (dVar 1) (dC (.int 1))) aNil)))) dNext)
  (dRet (dPrim pLst (aCons (dBin pAdd (dVar 1) (dC (.int 1))) aNil))))))
def F_law_exits : PL := runF 2 2 b_law_exits
def b_law_whole : DS := (dRet (dAnd (dIsi .int (dVar 0)) (dNot (dIsi .bool (dVar 0)))))
def F_law_whole : PL := runF 1 1 b_law_whole
def b_law_is_piece : DS := (dSeq (dIfS (dOr (dNot (dIsi .list (dVar 2))) (dOr (dBin (pEq false) (dVar 2) (dPrim pLst aNil)) (dNot (dPrim pAll (aCons (dLc (iSeq (dVar 2)) (gSet 4) (dC (.bl true)) (dPrim (cP (pureOf F_law_whole) []) (aCons (dVar 4) aNil)) [4]) aNil))))) (dRet (dC (.bl false))) dNext)
  (dSeq (dIfS (dAnd (dBin (pEq true) (dBin pIx (dVar 2) (dC (.int 0))) (dC (.int 0))) (dBin (pIn true) (dBin pIx (dVar 2) (dC (.int 0))) (dVar 1))) (dRet (dC (.bl false))) dNext)
  (dSeq (dFor (iRange2 (aCons (dC (.int 1)) (aCons (dPrim pLen (aCons (dVar 2) aNil)) aNil))) (gSet 3) (dIfS (dOr (dBin (pIn false) (dBin pIx (dVar 2) (dVar 3)) (dVar 1)) (dBin (pIn true) (dBin pIx (dVar 2) (dVar 3)) (dPrim (cP (pureOf F_law_exits) []) (aCons (dVar 0) (aCons (dBin pIx (dVar 2) (dBin pSub (dVar 3) (dC (.int 1)))) aNil))))) (dRet (dC (.bl false))) dNext))
  (dRet (dC (.bl true))))))
def F_law_is_piece : PL := runF 3 5 b_law_is_piece
def b_law_spoils : DS := (dSeq (dSet 4 (dLc (iRange1 (aCons (dPrim pLen (aCons (dVar 1) aNil)) aNil)) (gSet 6) (dAnd (dBin (pIn false) (dBin pIx (dBin pIx (dVar 0) (dBin pIx (dVar 1) (dVar 6))) (dC (.int 0))) (dPrim pTup (aCons (dC (.str "load")) (aCons (dC (.str "take")) aNil)))) (dBin (pEq false) (dBin pIx (dBin pIx (dVar 0) (dBin pIx (dVar 1) (dVar 6))) (dC (.int 2))) (dVar 2))) (dVar 6) [6]))
  (dSeq (dSet 5 (dLc (iRange1 (aCons (dPrim pLen (aCons (dVar 1) aNil)) aNil)) (gSet 6) (dAnd (dBin (pIn false) (dBin pIx (dBin pIx (dVar 0) (dBin pIx (dVar 1) (dVar 6))) (dC (.int 0))) (dPrim pTup (aCons (dC (.str "store")) (aCons (dC (.str "lay")) aNil)))) (dBin (pEq false) (dBin pIx (dBin pIx (dVar 0) (dBin pIx (dVar 1) (dVar 6))) (dC (.int 1))) (dVar 2))) (dVar 6) [6]))
  (dSeq (dIfS (dOr (dBin (pEq false) (dVar 5) (dPrim pLst aNil)) (dOr (dBin (pEq true) (dBin pIx (dVar 5) (dUn pNeg (dC (.int 1)))) (dBin pSub (dPrim pLen (aCons (dVar 1) aNil)) (dC (.int 1)))) (dBin (pEq false) (dVar 4) (dPrim pLst aNil)))) (dRet (dC (.bl false))) dNext)
  (dRet (dAnd (dBin pLt (dBin pIx (dVar 4) (dC (.int 0))) (dBin pIx (dVar 5) (dUn pNeg (dC (.int 1))))) (dOr (dVar 3) (dBin pLt (dBin pIx (dVar 4) (dC (.int 0))) (dBin pIx (dVar 5) (dC (.int 0))))))))))
def F_law_spoils : PL := runF 4 7 b_law_spoils
def b_law_reached : DS := (dSeq (dSet 4 (fun _ S => some (.loc S.length, S ++ [.dik [] []])))
  (dSeq (dSet 5 (dPrim pListM (aCons (dVar 2) aNil)))
  (dSeq (whileL (dBin pGt (dPrim pLen (aCons (dVar 5) aNil)) (dC (.int 0))) (dSeq (dSet 6 (dMt pPop0 (dVar 5) aNil))
  (dIfS (dBin (pIn true) (dVar 6) (dVar 4)) (dSeq (dSub (dC (.bl true)) (dVar 4) (dVar 6))
  (dIfS (dOr (dBin (pEq true) (dBin pIx (dBin pIx (dVar 0) (dVar 6)) (dC (.int 0))) (dC (.str "store"))) (dBin (pEq true) (dBin pIx (dBin pIx (dVar 0) (dVar 6)) (dC (.int 1))) (dVar 3))) (dExpr (dMt pExtend (dVar 5) (aCons (dLc (iSeq (dPrim (cP (pureOf F_law_exits) []) (aCons (dVar 0) (aCons (dVar 6) aNil)))) (gSet 7) (dBin (pIn true) (dVar 7) (dVar 1)) (dVar 7) [7]) aNil))) dNext)) dNext)) 100000)
  (dRet (dPrim pList (aCons (dVar 4) aNil))))))
def F_law_reached : PL := runF 4 8 b_law_reached
def b_law_may : DS := (dSeq (dSet 3 (dPrim pLstM aNil))
  (dSeq (dFor (iSeq (dPrim (cP (pureOf F_law_reached) []) (aCons (dVar 0) (aCons (dVar 1) (aCons (dBin pAdd (dPrim pLst (aCons (dC (.int 0)) aNil)) (dPrim pList (aCons (dVar 1) aNil))) (aCons (dVar 2) aNil)))))) (gSet 4) (dIfS (dAnd (dBin (pIn false) (dBin pIx (dBin pIx (dVar 0) (dVar 4)) (dC (.int 0))) (dPrim pTup (aCons (dC (.str "load")) (aCons (dC (.str "take")) aNil)))) (dBin (pEq false) (dBin pIx (dBin pIx (dVar 0) (dVar 4)) (dC (.int 2))) (dVar 2))) (dExpr (dMt pExtend (dVar 3) (aCons (dLc (iSeq (dPrim (cP (pureOf F_law_exits) []) (aCons (dVar 0) (aCons (dVar 4) aNil)))) (gSet 5) (dBin (pIn true) (dVar 5) (dVar 1)) (dVar 5) [5]) aNil))) dNext))
  (dSeq (dFor (iSeq (dPrim (cP (pureOf F_law_reached) []) (aCons (dVar 0) (aCons (dVar 1) (aCons (dVar 3) (aCons (dC (.str "")) aNil)))))) (gSet 4) (dIfS (dAnd (dBin (pIn false) (dBin pIx (dBin pIx (dVar 0) (dVar 4)) (dC (.int 0))) (dPrim pTup (aCons (dC (.str "store")) (aCons (dC (.str "lay")) aNil)))) (dBin (pEq false) (dBin pIx (dBin pIx (dVar 0) (dVar 4)) (dC (.int 1))) (dVar 2))) (dRet (dC (.bl true))) dNext))
  (dRet (dC (.bl false))))))
def F_law_may : PL := runF 3 6 b_law_may
def b_law : DS := (dSeq (dSet 1 (dPrim (cP (pureOf F_law_program) []) (aCons (dVar 0) (aCons (dC (.int 57)) aNil))))
  (dSeq (dSet 2 (dBin pIx (dVar 1) (dC (.int 2))))
  (dSeq (dSet 3 (dPrim (cP (pureOf F_law_cutting) []) (aCons (dVar 0) (aCons (dVar 1) (aCons (dPrim (cP (pureOf F_law_pool) []) (aCons (dVar 0) aNil)) aNil)))))
  (dSeq (dSet 4 (fun _ S => some (.loc S.length, S ++ [.dik [] []])))
  (dSeq (dFor (iSeq (dBin pIx (dVar 3) (dC (.int 1)))) (gTupD 2 (gsCons (gSet 6) (gsCons (gSet 5) gsNil))) (dSub (dC (.bl true)) (dVar 4) (dVar 6)))
  (dSeq (dFor (iSeq (dBin pMulT (dBin pAdd (dBin pIx (dVar 1) (dC (.int 0))) (dBin pIx (dVar 1) (dC (.int 1)))) (dC (.int 2)))) (gSet 5) (dSeq (dSet 7 (dPrim (cS F_spoilt []) (aCons (dVar 1) (aCons (dVar 3) (aCons (dBin pIx (dVar 5) (dC (.int 0))) aNil)))))
  (dIfS (dBin (pIs false) (dVar 7) (dC .non)) (dIfS (dAnd (dNot (dBin pIx (dVar 5) (dC (.int 2)))) (dPrim (cP (pureOf F_law_may) []) (aCons (dVar 2) (aCons (dVar 4) (aCons (dBin pIx (dVar 5) (dC (.int 0))) aNil))))) (dRet (dC (.bl false))) dNext) (dIfS (dOr (dBin pIx (dVar 5) (dC (.int 2))) (dNot (dPrim (cP (pureOf F_law_is_piece) []) (aCons (dVar 2) (aCons (dVar 4) (aCons (dVar 7) aNil)))))) (dRet (dC (.bl false))) (dIfS (dNot (dPrim (cP (pureOf F_law_spoils) []) (aCons (dVar 2) (aCons (dVar 7) (aCons (dBin pIx (dVar 5) (dC (.int 0))) (aCons (dBin (pInT false) (dVar 5) (dBin pIx (dVar 1) (dC (.int 1)))) aNil)))))) (dRet (dC (.bl false))) (dExpr (dMt pAppend (dVar 7) (aCons (dC (.int 0)) aNil))))))))
  (dRet (dAnd (dBin (pEq false) (dVar 1) (dPrim (cP (pureOf F_law_program) []) (aCons (dVar 0) (aCons (dC (.int 57)) aNil)))) (dBin (pEq false) (dVar 3) (dPrim (cP (pureOf F_law_cutting) []) (aCons (dVar 0) (aCons (dVar 1) (aCons (dPrim (cP (pureOf F_law_pool) []) (aCons (dVar 0) aNil)) aNil)))))))))))))
def F_law : PL := runF 1 8 b_law
/-! ### facts of the head -/
def d_ways_of : He.DefD := ⟨("ways_of", none), "ways_of", "ways_of", defArgs s_ways_of, defBody s_ways_of, defScope s_ways_of, [], []⟩
def d_ways : He.DefD := ⟨("ways", none), "ways", "ways", defArgs s_ways, defBody s_ways, defScope s_ways, [], []⟩
def d_place_rows : He.DefD := ⟨("place_rows", none), "place_rows", "place_rows", defArgs s_place_rows, defBody s_place_rows, defScope s_place_rows, [], []⟩
def d_may_spoil : He.DefD := ⟨("may_spoil", none), "may_spoil", "may_spoil", defArgs s_may_spoil, defBody s_may_spoil, defScope s_may_spoil, [], []⟩
def d_touch : He.DefD := ⟨("touch", none), "touch", "touch", defArgs s_touch, defBody s_touch, defScope s_touch, [], []⟩
def d_behind : He.DefD := ⟨("behind", none), "behind", "behind", defArgs s_behind, defBody s_behind, defScope s_behind, [], []⟩
def d_led_by : He.DefD := ⟨("led_by", none), "led_by", "led_by", defArgs s_led_by, defBody s_led_by, defScope s_led_by, [], []⟩
def d_spoilt : He.DefD := ⟨("spoilt", none), "spoilt", "spoilt", defArgs s_spoilt, defBody s_spoilt, defScope s_spoilt, [], []⟩
def d_law_cell_at : He.DefD := ⟨("_law_cell_at", none), "_law_cell_at", "_law_cell_at", defArgs s_law_cell_at, defBody s_law_cell_at, defScope s_law_cell_at, [], []⟩
def d_law_rich : He.DefD := ⟨("_law_rich", none), "_law_rich", "_law_rich", defArgs s_law_rich, defBody s_law_rich, defScope s_law_rich, [], []⟩
def d_law_big : He.DefD := ⟨("_law_big", none), "_law_big", "_law_big", defArgs s_law_big, defBody s_law_big, defScope s_law_big, [], []⟩
def d_law_digits : He.DefD := ⟨("_law_digits", none), "_law_digits", "_law_digits", defArgs s_law_digits, defBody s_law_digits, defScope s_law_digits, [], []⟩
def d_law_names : He.DefD := ⟨("_law_names", none), "_law_names", "_law_names", defArgs s_law_names, defBody s_law_names, defScope s_law_names, [], []⟩
def d_law_world : He.DefD := ⟨("_law_world", none), "_law_world", "_law_world", defArgs s_law_world, defBody s_law_world, defScope s_law_world, [], []⟩
def d_law_row : He.DefD := ⟨("_law_row", none), "_law_row", "_law_row", defArgs s_law_row, defBody s_law_row, defScope s_law_row, [], []⟩
def d_law_program : He.DefD := ⟨("_law_program", none), "_law_program", "_law_program", defArgs s_law_program, defBody s_law_program, defScope s_law_program, [], []⟩
def d_law_some : He.DefD := ⟨("_law_some", none), "_law_some", "_law_some", defArgs s_law_some, defBody s_law_some, defScope s_law_some, [], []⟩
def d_law_cutting : He.DefD := ⟨("_law_cutting", none), "_law_cutting", "_law_cutting", defArgs s_law_cutting, defBody s_law_cutting, defScope s_law_cutting, [], []⟩
def d_law_pool : He.DefD := ⟨("_law_pool", none), "_law_pool", "_law_pool", defArgs s_law_pool, defBody s_law_pool, defScope s_law_pool, [], []⟩
def d_law_exits : He.DefD := ⟨("_law_exits", none), "_law_exits", "_law_exits", defArgs s_law_exits, defBody s_law_exits, defScope s_law_exits, [], []⟩
def d_law_whole : He.DefD := ⟨("_law_whole", none), "_law_whole", "_law_whole", defArgs s_law_whole, defBody s_law_whole, defScope s_law_whole, [], []⟩
def d_law_is_piece : He.DefD := ⟨("_law_is_piece", none), "_law_is_piece", "_law_is_piece", defArgs s_law_is_piece, defBody s_law_is_piece, defScope s_law_is_piece, [], []⟩
def d_law_spoils : He.DefD := ⟨("_law_spoils", none), "_law_spoils", "_law_spoils", defArgs s_law_spoils, defBody s_law_spoils, defScope s_law_spoils, [], []⟩
def d_law_reached : He.DefD := ⟨("_law_reached", none), "_law_reached", "_law_reached", defArgs s_law_reached, defBody s_law_reached, defScope s_law_reached, [], []⟩
def d_law_may : He.DefD := ⟨("_law_may", none), "_law_may", "_law_may", defArgs s_law_may, defBody s_law_may, defScope s_law_may, [], []⟩
def d_law : He.DefD := ⟨("law", none), "law", "law", defArgs s_law, defBody s_law, defScope s_law, [], []⟩
def fn0 : List He.DefD := [d_ways_of, d_ways, d_place_rows, d_may_spoil, d_touch, d_behind, d_led_by, d_spoilt, d_law_cell_at, d_law_rich, d_law_big, d_law_digits, d_law_names, d_law_world, d_law_row, d_law_program, d_law_some, d_law_cutting, d_law_pool, d_law_exits, d_law_whole, d_law_is_piece, d_law_spoils, d_law_reached, d_law_may, d_law]
def fn : List He.DefD := fn0
def fac0 : List He.Fa := [.glo "ways_of", .glo "ways", .glo "place_rows", .glo "may_spoil", .glo "touch", .glo "behind", .glo "led_by", .glo "spoilt", .glo "_law_cell_at", .glo "_law_rich", .glo "_law_big", .glo "_law_digits", .glo "_law_names", .glo "_law_world", .glo "_law_row", .glo "_law_program", .glo "_law_some", .glo "_law_cutting", .glo "_law_pool", .glo "_law_exits", .glo "_law_whole", .glo "_law_is_piece", .glo "_law_spoils", .glo "_law_reached", .glo "_law_may", .glo "law", .glo "TOUCHES"]
def fac : List He.Fa := fac0
def fa : List He.Fa := fac ++ frees
def ts : List He.Tab := [(fun K => He.ga K "TOUCHES", ["load", "store", "take", "lay"])]
def ex (K : PySem.W.Frag) : Bool := He.valsB K (He.ga K "TOUCHES") t_TOUCHES
abbrev Fx (w : World) (K : PySem.W.Frag) (mg : Str → Option Value) : Prop := FactsT fa fn ts ex w K mg
section
variable {K : PySem.W.Frag} {mg : Str → Option Value} {P : Program} {w : World} {base : Heap}
theorem Fx.tb (Y : Fx w K mg) : TB mg := Y.tb0 ⟨fac, rfl⟩
theorem Fx.tab_TOUCHES (Y : Fx w K mg) : TabC K w mg "TOUCHES" t_TOUCHES := tab_of (Y.glo 26) (says_tab Y.t 0) (show ex K = true from Y.e)
theorem sc_ways_of : FnScope ["row", "at"] ["row", "at"] (defScope s_ways_of) := ⟨rfl, rfl, rfl, by decide +kernel, rfl, by decide +kernel, by decide +kernel⟩
theorem ok_ways_of_fn {f : Addr} {fd : FuncData} (FD : FunD K d_ways_of.name d_ways_of.qual d_ways_of.params d_ways_of.body d_ways_of.scope (He.DefD.dvs K d_ways_of) (He.DefD.kws K d_ways_of) f fd) (Y : Fx w K mg) : FnOk P w K mg base CX0 1 f fd ["row", "at"] (spS K 2 F_ways_of) := by
  refine fn_ok FD sc_ways_of fun cdv A outer s H E hr => ?_
  exact (sds_cons (sd_if (td_eq hr (ed_ix hr (ed_var (pv 0)) ed_int (fun _ _ => rfl)) ed_str) (sds_one (sd_ret (ed_tup ad_nil))) sds_nil)
  (sds_cons (sd_if (td_eq hr (ed_ix hr (ed_var (pv 0)) ed_int (fun _ _ => rfl)) ed_str) (sds_one (sd_ret (ed_tup (ad_cons (ed_ix hr (ed_var (pv 0)) ed_int (fun _ _ => rfl)) ad_nil)))) sds_nil)
  (sds_cons (sd_if (td_eq hr (ed_ix hr (ed_var (pv 0)) ed_int (fun _ _ => rfl)) ed_str) (sds_one (sd_ret (ed_tup (ad_cons (ed_ix hr (ed_var (pv 0)) ed_int (fun _ _ => rfl)) (ad_cons (ed_add (ed_var (pv 1)) ed_int) ad_nil))))) sds_nil)
  (sds_one (sd_ret (ed_tup (ad_cons (ed_add (ed_var (pv 1)) ed_int) ad_nil)))))))
theorem ok_ways_of (Y : Fx w K mg) : FnC P w K mg base "ways_of" 1 ["row", "at"] [] F_ways_of := by
  obtain ⟨fd, FD⟩ := Y.c.def_ 0 (d := d_ways_of) rfl
  exact FnC.of FD (Y.glo 0) (ok_ways_of_fn FD Y) fun _ _ _ _ _ _ us hl => match us, hl with | [_, _], _ => rfl
theorem sc_ways : FnScope ["program", "at", "row"] ["program"] (defScope s_ways) := ⟨rfl, rfl, rfl, by decide +kernel, rfl, by decide +kernel, by decide +kernel⟩
theorem ok_ways_fn {f : Addr} {fd : FuncData} (FD : FunD K d_ways.name d_ways.qual d_ways.params d_ways.body d_ways.scope (He.DefD.dvs K d_ways) (He.DefD.kws K d_ways) f fd) (Y : Fx w K mg) : FnOk P w K mg base CX0 2 f fd ["program"] (spS K 1 F_ways) := by
  refine fn_ok FD sc_ways fun cdv A outer s H E hr => ?_
  exact (sds_one (sd_ret (ed_lc (pe_lc (own := [("at", 1), ("row", 2)]) rfl sc_ways.nd (Dn.ID.pi (id_enum2 (ad_cons (ed_ix hr (ed_var (pv 0)) ed_int (fun _ _ => rfl)) ad_nil) (fun ha => pi_enum (by rfl) Y.tb.enumerate ha) (fun ha => pi_enumT (by rfl) Y.tb.enumerate ha))) (blkOk_by (by rfl)) (fun _ _ _ _ _ => (pg_tup rfl (pgs_cons (pg_name (i := 1) sc_ways.nd rfl (by first | exact .inl rfl | exact .inr rfl)) (pgs_cons (pg_name (i := 2) sc_ways.nd rfl (by first | exact .inl rfl | exact .inr rfl)) pgs_nil)))) (fun _ _ _ _ _ => pts_nil) (fun _ _ _ _ _ => (ED.pe (ed_callP (ok_ways_of Y) rfl hr (by decide) (by rfl) dd0 (ad_cons (ed_var (pv 2)) (ad_cons (ed_var (pv 1)) ad_nil)))))) (gw_tup (gws_cons (gw_name (by decide)) (gws_cons (gw_name (by decide)) gws_nil))) yes_of)))
theorem ok_ways (Y : Fx w K mg) : FnC P w K mg base "ways" 2 ["program"] [] F_ways := by
  obtain ⟨fd, FD⟩ := Y.c.def_ 1 (d := d_ways) rfl
  exact FnC.of FD (Y.glo 1) (ok_ways_fn FD Y) fun _ _ _ _ _ _ us hl => match us, hl with | [_], _ => rfl
theorem sc_place_rows : FnScope ["code", "row", "boxes"] ["code"] (defScope s_place_rows) := ⟨rfl, rfl, rfl, by decide +kernel, rfl, by decide +kernel, by decide +kernel⟩
theorem ok_place_rows_fn {f : Addr} {fd : FuncData} (FD : FunD K d_place_rows.name d_place_rows.qual d_place_rows.params d_place_rows.body d_place_rows.scope (He.DefD.dvs K d_place_rows) (He.DefD.kws K d_place_rows) f fd) (Y : Fx w K mg) : FnOk P w K mg base CX0 1 f fd ["code"] (spS K 1 F_place_rows) := by
  refine fn_ok FD sc_place_rows fun cdv A outer s H E hr => ?_
  exact (sds_one (sd_ret (ed_add (ed_lst (ad_cons ed_int ad_nil)) (ed_lc (pe_lc (own := [("row", 1), ("boxes", 2)]) rfl sc_place_rows.nd (Dn.ID.pi (id_seq (ed_ix hr (ed_var (pv 0)) ed_int (fun _ _ => rfl)))) (blkOk_by (by rfl)) (fun _ _ _ _ _ => (pg_tup rfl (pgs_cons (pg_name (i := 1) sc_place_rows.nd rfl (by first | exact .inl rfl | exact .inr rfl)) (pgs_cons (pg_name (i := 2) sc_place_rows.nd rfl (by first | exact .inl rfl | exact .inr rfl)) pgs_nil)))) (fun _ _ _ _ _ => pts_nil) (fun _ _ _ _ _ => (ED.pe (ed_var (pv 1))))) (gw_tup (gws_cons (gw_name (by decide)) (gws_cons (gw_name (by decide)) gws_nil))) yes_of))))
theorem ok_place_rows (Y : Fx w K mg) : FnC P w K mg base "place_rows" 1 ["code"] [] F_place_rows := by
  obtain ⟨fd, FD⟩ := Y.c.def_ 2 (d := d_place_rows) rfl
  exact FnC.of FD (Y.glo 2) (ok_place_rows_fn FD Y) fun _ _ _ _ _ _ us hl => match us, hl with | [_], _ => rfl
theorem sc_may_spoil : FnScope ["program", "name", "told"] ["program", "name"] (defScope s_may_spoil) := ⟨rfl, rfl, rfl, by decide +kernel, rfl, by decide +kernel, by decide +kernel⟩
theorem ok_may_spoil_fn {f : Addr} {fd : FuncData} (FD : FunD K d_may_spoil.name d_may_spoil.qual d_may_spoil.params d_may_spoil.body d_may_spoil.scope (He.DefD.dvs K d_may_spoil) (He.DefD.kws K d_may_spoil) f fd) (Y : Fx w K mg) : FnOk P w K mg base CX0 1 f fd ["program", "name"] (spS K 2 F_may_spoil) := by
  refine fn_ok FD sc_may_spoil fun cdv A outer s H E hr => ?_
  exact (sds_cons (sd_for (ps_for PassesOwn.never rfl (Dn.ID.pi (id_seq (ed_add (ed_ix hr (ed_var (pv 0)) ed_int (fun _ _ => rfl)) (ed_ix hr (ed_var (pv 0)) ed_int (fun _ _ => rfl))))) (GD.pg (gd_name (pg_name (i := 2) sc_may_spoil.nd rfl (by first | exact .inl rfl | exact .inr rfl)))) (SDs.ps (sds_one (sd_if (td_eq hr (ed_ix hr (ed_var (pv 2)) ed_int (fun _ _ => rfl)) (ed_var (pv 1))) (sds_one (sd_ret (ed_not (ed_ix hr (ed_var (pv 2)) ed_int (fun _ _ => rfl))))) sds_nil)))))
  (sds_one (sd_ret ed_bl)))
theorem ok_may_spoil (Y : Fx w K mg) : FnC P w K mg base "may_spoil" 1 ["program", "name"] [] F_may_spoil := by
  obtain ⟨fd, FD⟩ := Y.c.def_ 3 (d := d_may_spoil) rfl
  exact FnC.of FD (Y.glo 3) (ok_may_spoil_fn FD Y) fun _ _ _ _ _ _ us hl => match us, hl with | [_, _], _ => rfl
theorem sc_touch : FnScope ["row", "name"] ["row", "name"] (defScope s_touch) := ⟨rfl, rfl, rfl, by decide +kernel, rfl, by decide +kernel, by decide +kernel⟩
theorem ok_touch_fn {f : Addr} {fd : FuncData} (FD : FunD K d_touch.name d_touch.qual d_touch.params d_touch.body d_touch.scope (He.DefD.dvs K d_touch) (He.DefD.kws K d_touch) f fd) (Y : Fx w K mg) : FnOk P w K mg base CX0 1 f fd ["row", "name"] (spS K 2 F_touch) := by
  refine fn_ok FD sc_touch fun cdv A outer s H E hr => ?_
  exact (sds_cons (sd_if (TDW.td (tw_and (td_tabIn Y.tab_TOUCHES rfl (ed_ix hr (ed_var (pv 0)) ed_int (fun _ _ => rfl)) rfl) (tw_and1 (td_eq hr (ed_ix hr (ed_var (pv 0)) (ed_tabIx Y.tab_TOUCHES rfl (ed_ix hr (ed_var (pv 0)) ed_int (fun _ _ => rfl)) (fun _ _ => rfl)) (fun _ _ => rfl)) (ed_var (pv 1)))))) (sds_one (sd_ret (ed_ix hr (ed_var (pv 0)) ed_int (fun _ _ => rfl)))) sds_nil)
  (sds_one (sd_ret ed_str)))
theorem ok_touch (Y : Fx w K mg) : FnC P w K mg base "touch" 1 ["row", "name"] [] F_touch := by
  obtain ⟨fd, FD⟩ := Y.c.def_ 4 (d := d_touch) rfl
  exact FnC.of FD (Y.glo 4) (ok_touch_fn FD Y) fun _ _ _ _ _ _ us hl => match us, hl with | [_, _], _ => rfl
theorem sc_behind : FnScope ["deed", "seen"] ["deed", "seen"] (defScope s_behind) := ⟨rfl, rfl, rfl, by decide +kernel, rfl, by decide +kernel, by decide +kernel⟩
theorem ok_behind_fn {f : Addr} {fd : FuncData} (FD : FunD K d_behind.name d_behind.qual d_behind.params d_behind.body d_behind.scope (He.DefD.dvs K d_behind) (He.DefD.kws K d_behind) f fd) (Y : Fx w K mg) : FnOk P w K mg base CX0 1 f fd ["deed", "seen"] (spS K 2 F_behind) := by
  refine fn_ok FD sc_behind fun cdv A outer s H E hr => ?_
  exact (sds_cons (sd_if (TDW.td (tw_and (td_eq hr (ed_var (pv 0)) ed_str) (tw_and1 (td_not (td_val (ed_var (pv 1))))))) (sds_one (sd_ret ed_non)) sds_nil)
  (sds_one (sd_ret (ed_or (ed_var (pv 1)) (ed_or (ed_eq hr (ed_var (pv 0)) ed_str) (ed_one (ed_eq hr (ed_var (pv 0)) ed_str)))))))
theorem ok_behind (Y : Fx w K mg) : FnC P w K mg base "behind" 1 ["deed", "seen"] [] F_behind := by
  obtain ⟨fd, FD⟩ := Y.c.def_ 5 (d := d_behind) rfl
  exact FnC.of FD (Y.glo 5) (ok_behind_fn FD Y) fun _ _ _ _ _ _ us hl => match us, hl with | [_, _], _ => rfl
theorem sc_led_by : FnScope ["came", "node", "found"] ["came", "node"] (defScope s_led_by) := ⟨rfl, rfl, rfl, by decide +kernel, rfl, by decide +kernel, by decide +kernel⟩
theorem ok_led_by_fn {f : Addr} {fd : FuncData} (FD : FunD K d_led_by.name d_led_by.qual d_led_by.params d_led_by.body d_led_by.scope (He.DefD.dvs K d_led_by) (He.DefD.kws K d_led_by) f fd) (Y : Fx w K mg) : FnOk P w K mg base CX0 1 f fd ["came", "node"] (spS K 2 F_led_by) := by
  refine fn_ok FD sc_led_by fun cdv A outer s H E hr => ?_
  exact (sds_cons (sd_set (ps_set (i := 2) sc_led_by.nd rfl (by first | exact .inl rfl | exact .inr rfl) (ED.pe (ed_lstM ad_nil))))
  (sds_cons (sd_while _ (ps_while PassesOwn.never (TD.pt (td_isnot (ed_var (pv 1)) ed_non)) (SDs.ps (sds_cons (sd_expr (ed_mt ok_append (ed_var (pv 2)) (ad_cons (ed_ix hr (ed_var (pv 1)) ed_int (fun _ _ => rfl)) ad_nil) (fun ho ha => pe_bm PySem.F.plainAttrs_list PySem.F.slot_list_append PySem.F.type_list_append mt_append ho ha)))
  (sds_one (sd_set (ps_set (i := 1) sc_led_by.nd rfl (by first | exact .inl rfl | exact .inr rfl) (ED.pe (ed_lfIx hr (ed_var (pv 0)) (ed_var (pv 1)) (fun _ _ => rfl))))))))))
  (sds_cons (sd_expr (ed_mt0 ok_reverse (ed_var (pv 2)) (fun ho => pe_bm0 PySem.F.plainAttrs_list PySem.F.slot_list_reverse PySem.F.type_list_reverse mt_reverse ho)))
  (sds_one (sd_ret (ed_var (pv 2)))))))
theorem ok_led_by (Y : Fx w K mg) : FnC P w K mg base "led_by" 1 ["came", "node"] [] F_led_by := by
  obtain ⟨fd, FD⟩ := Y.c.def_ 6 (d := d_led_by) rfl
  exact FnC.of FD (Y.glo 6) (ok_led_by_fn FD Y) fun _ _ _ _ _ _ us hl => match us, hl with | [_, _], _ => rfl
theorem sc_spoilt : FnScope ["program", "code", "name", "flow", "places", "keeps", "came", "row", "left", "node", "deed", "seen", "to"] ["program", "code", "name"] (defScope s_spoilt) := ⟨rfl, rfl, rfl, by decide +kernel, rfl, by decide +kernel, by decide +kernel⟩
theorem ok_spoilt_fn {f : Addr} {fd : FuncData} (FD : FunD K d_spoilt.name d_spoilt.qual d_spoilt.params d_spoilt.body d_spoilt.scope (He.DefD.dvs K d_spoilt) (He.DefD.kws K d_spoilt) f fd) (Y : Fx w K mg) : FnOk P w K mg base CX0 3 f fd ["program", "code", "name"] (spS K 3 F_spoilt) := by
  refine fn_ok FD sc_spoilt fun cdv A outer s H E hr => ?_
  exact (sds_cons (sd_if (td_not (td_val (ed_callP (ok_may_spoil Y) rfl hr (by decide) (by rfl) dd0 (ad_cons (ed_var (pv 0)) (ad_cons (ed_var (pv 2)) ad_nil))))) (sds_one (sd_ret ed_non)) sds_nil)
  (sds_cons (sd_set (ps_set (i := 3) sc_spoilt.nd rfl (by first | exact .inl rfl | exact .inr rfl) (ED.pe (ed_callP (ok_ways Y) rfl hr (by decide) (by rfl) dd0 (ad_cons (ed_var (pv 0)) ad_nil)))))
  (sds_cons (sd_set (ps_set (i := 4) sc_spoilt.nd rfl (by first | exact .inl rfl | exact .inr rfl) (ED.pe (ed_callP (ok_place_rows Y) rfl hr (by decide) (by rfl) dd0 (ad_cons (ed_var (pv 1)) ad_nil)))))
  (sds_cons (sd_set (ps_set (i := 5) sc_spoilt.nd rfl (by first | exact .inl rfl | exact .inr rfl) (ED.pe (ed_sl (ed_var (pv 4)) (od_some ed_int) od_none))))
  (sds_cons (sd_set (ps_set (i := 6) sc_spoilt.nd rfl (by first | exact .inl rfl | exact .inr rfl) (ED.pe ed_lfNew)))
  (sds_cons (sd_for (ps_for PassesOwn.never rfl (Dn.ID.pi (id_seq (ed_var (pv 4)))) (GD.pg (gd_name (pg_name (i := 7) sc_spoilt.nd rfl (by first | exact .inl rfl | exact .inr rfl)))) (SDs.ps (sds_one (sd_lfSub (ps_asg (ED.pe ed_non) (pg_sub (ED.pe (ed_var (pv 6))) (ED.pe (ed_tup (ad_cons (ed_var (pv 7)) (ad_cons ed_bl ad_nil)))) (set_lf (hu1 hr)))))))))
  (sds_cons (sd_set (ps_set (i := 8) sc_spoilt.nd rfl (by first | exact .inl rfl | exact .inr rfl) (ED.pe (ed_prim (fun ha => pe_callTy (x := "list") (call_lfList rfl) (by rfl) Y.tb.list boot_list ha) ok_lfList (ad_cons (ed_var (pv 6)) ad_nil)))))
  (sds_cons (sd_while _ (ps_while PassesOwn.never (TD.pt (td_gt (ed_prim (fun ha => pe_callB (x := "len") call_lenAll (by rfl) Y.tb.len boot_len ha) ok_len (ad_cons (ed_var (pv 8)) ad_nil)) ed_int)) (SDs.ps (sds_cons (sd_set (ps_set (i := 9) sc_spoilt.nd rfl (by first | exact .inl rfl | exact .inr rfl) (ED.pe (ed_mt ok_popAt (ed_var (pv 8)) (ad_cons ed_int ad_nil) (fun ho ha => pe_bm PySem.F.plainAttrs_list PySem.F.slot_list_pop PySem.F.type_list_pop mt_popAt ho ha)))))
  (sds_cons (sd_set (ps_set (i := 10) sc_spoilt.nd rfl (by first | exact .inl rfl | exact .inr rfl) (ED.pe (ed_callP (ok_touch Y) rfl hr (by decide) (by rfl) dd0 (ad_cons (ed_ix hr (ed_ix hr (ed_var (pv 0)) ed_int (fun _ _ => rfl)) (ed_ix hr (ed_var (pv 9)) ed_int (fun _ _ => rfl)) (fun _ _ => rfl)) (ad_cons (ed_var (pv 2)) ad_nil))))))
  (sds_cons (sd_if (TDW.td (tw_and (td_val (ed_ix hr (ed_var (pv 9)) ed_int (fun _ _ => rfl))) (tw_and1 (td_in hr (ed_var (pv 10)) (ed_tup (ad_cons ed_str (ad_cons ed_str ad_nil))) rfl)))) (sds_one (sd_ret (ed_callS (ok_led_by Y) rfl hr (by decide) (by rfl) dd0 (ad_cons (ed_var (pv 6)) (ad_cons (ed_var (pv 9)) ad_nil))))) sds_nil)
  (sds_cons (sd_set (ps_set (i := 11) sc_spoilt.nd rfl (by first | exact .inl rfl | exact .inr rfl) (ED.pe (ed_callP (ok_behind Y) rfl hr (by decide) (by rfl) dd0 (ad_cons (ed_var (pv 10)) (ad_cons (ed_ix hr (ed_var (pv 9)) ed_int (fun _ _ => rfl)) ad_nil))))))
  (sds_one (sd_if (td_isnot (ed_var (pv 11)) ed_non) (sds_one (sd_for (ps_for PassesOwn.never rfl (Dn.ID.pi (id_seq (ed_ix hr (ed_var (pv 3)) (ed_ix hr (ed_var (pv 9)) ed_int (fun _ _ => rfl)) (fun _ _ => rfl)))) (GD.pg (gd_name (pg_name (i := 12) sc_spoilt.nd rfl (by first | exact .inl rfl | exact .inr rfl)))) (SDs.ps (sds_one (sd_if (TDW.td (tw_and (td_notin hr (ed_var (pv 12)) (ed_var (pv 5)) rfl) (tw_and1 (td_cmp (op_lfNotIn (hu1 hr)) ok_lfIn (ed_tup (ad_cons (ed_var (pv 12)) (ad_cons (ed_var (pv 11)) ad_nil))) (ed_var (pv 6)) rfl)))) (sds_cons (sd_lfSub (ps_asg (ED.pe (ed_var (pv 9))) (pg_sub (ED.pe (ed_var (pv 6))) (ED.pe (ed_tup (ad_cons (ed_var (pv 12)) (ad_cons (ed_var (pv 11)) ad_nil)))) (set_lf (hu1 hr)))))
  (sds_one (sd_expr (ed_mt ok_append (ed_var (pv 8)) (ad_cons (ed_tup (ad_cons (ed_var (pv 12)) (ad_cons (ed_var (pv 11)) ad_nil))) ad_nil) (fun ho ha => pe_bm PySem.F.plainAttrs_list PySem.F.slot_list_append PySem.F.type_list_append mt_append ho ha))))) sds_nil)))))) sds_nil)))))))))
  (sds_one (sd_ret ed_non))))))))))
theorem ok_spoilt (Y : Fx w K mg) : FnC P w K mg base "spoilt" 3 ["program", "code", "name"] [] F_spoilt := by
  obtain ⟨fd, FD⟩ := Y.c.def_ 7 (d := d_spoilt) rfl
  exact FnC.of FD (Y.glo 7) (ok_spoilt_fn FD Y) fun _ _ _ _ _ _ us hl => match us, hl with | [_, _, _], _ => rfl
theorem sc_law_cell_at : FnScope ["_law_script", "_law_k"] ["_law_script", "_law_k"] (defScope s_law_cell_at) := ⟨rfl, rfl, rfl, by decide +kernel, rfl, by decide +kernel, by decide +kernel⟩
theorem ok_law_cell_at_fn {f : Addr} {fd : FuncData} (FD : FunD K d_law_cell_at.name d_law_cell_at.qual d_law_cell_at.params d_law_cell_at.body d_law_cell_at.scope (He.DefD.dvs K d_law_cell_at) (He.DefD.kws K d_law_cell_at) f fd) (Y : Fx w K mg) : FnOk P w K mg base CX0 1 f fd ["_law_script", "_law_k"] (spS K 2 F_law_cell_at) := by
  refine fn_ok FD sc_law_cell_at fun cdv A outer s H E hr => ?_
  exact (sds_cons (sd_if (td_lt (ed_var (pv 1)) (ed_prim (fun ha => pe_callB (x := "len") call_lenAll (by rfl) Y.tb.len boot_len ha) ok_len (ad_cons (ed_var (pv 0)) ad_nil))) (sds_one (sd_ret (ed_ix hr (ed_var (pv 0)) (ed_var (pv 1)) (fun _ _ => rfl)))) sds_nil)
  (sds_one (sd_ret ed_int)))
theorem ok_law_cell_at (Y : Fx w K mg) : FnC P w K mg base "_law_cell_at" 1 ["_law_script", "_law_k"] [] F_law_cell_at := by
  obtain ⟨fd, FD⟩ := Y.c.def_ 8 (d := d_law_cell_at) rfl
  exact FnC.of FD (Y.glo 8) (ok_law_cell_at_fn FD Y) fun _ _ _ _ _ _ us hl => match us, hl with | [_, _], _ => rfl
theorem sc_law_rich : FnScope ["_law_cell", "_law_k", "_law_found", "_law_number", "_law_j"] ["_law_cell", "_law_k"] (defScope s_law_rich) := ⟨rfl, rfl, rfl, by decide +kernel, rfl, by decide +kernel, by decide +kernel⟩
theorem ok_law_rich_fn {f : Addr} {fd : FuncData} (FD : FunD K d_law_rich.name d_law_rich.qual d_law_rich.params d_law_rich.body d_law_rich.scope (He.DefD.dvs K d_law_rich) (He.DefD.kws K d_law_rich) f fd) (Y : Fx w K mg) : FnOk P w K mg base CX0 1 f fd ["_law_cell", "_law_k"] (spS K 2 F_law_rich) := by
  refine fn_ok FD sc_law_rich fun cdv A outer s H E hr => ?_
  exact (sds_cons (sd_set (ps_set (i := 2) sc_law_rich.nd rfl (by first | exact .inl rfl | exact .inr rfl) (ED.pe ed_int)))
  (sds_cons (sd_set (ps_set (i := 3) sc_law_rich.nd rfl (by first | exact .inl rfl | exact .inr rfl) (ED.pe (ed_add (ed_add (ed_mod (ed_var (pv 0)) ed_int) (ed_mul ed_int (ed_var (pv 1)))) ed_int))))
  (sds_cons (sd_for (ps_for PassesOwn.never rfl (Dn.ID.pi (id_range1 (ad_cons ed_int ad_nil) (fun ha => pi_range1 (by rfl) Y.tb.range ha))) (GD.pg (gd_name (pg_name (i := 4) sc_law_rich.nd rfl (by first | exact .inl rfl | exact .inr rfl)))) (SDs.ps (sds_cons (sd_set (ps_set (i := 3) sc_law_rich.nd rfl (by first | exact .inl rfl | exact .inr rfl) (ED.pe (ed_mod (ed_add (ed_add (ed_mul (ed_var (pv 3)) (ed_var (pv 3))) (ed_mul ed_int (ed_var (pv 3)))) (ed_var (pv 4))) ed_int))))
  (sds_cons (sd_set (ps_set (i := 3) sc_law_rich.nd rfl (by first | exact .inl rfl | exact .inr rfl) (ED.pe (ed_mod (ed_add (ed_add (ed_mul (ed_var (pv 3)) ed_int) (ed_mul ed_int (ed_var (pv 4)))) (ed_var (pv 1))) ed_int))))
  (sds_one (sd_set (ps_set (i := 2) sc_law_rich.nd rfl (by first | exact .inl rfl | exact .inr rfl) (ED.pe (ed_add (ed_mul (ed_var (pv 2)) ed_int) (ed_var (pv 3))))))))))))
  (sds_one (sd_ret (ed_var (pv 2)))))))
theorem ok_law_rich (Y : Fx w K mg) : FnC P w K mg base "_law_rich" 1 ["_law_cell", "_law_k"] [] F_law_rich := by
  obtain ⟨fd, FD⟩ := Y.c.def_ 9 (d := d_law_rich) rfl
  exact FnC.of FD (Y.glo 9) (ok_law_rich_fn FD Y) fun _ _ _ _ _ _ us hl => match us, hl with | [_, _], _ => rfl
theorem sc_law_big : FnScope ["_law_script", "_law_k"] ["_law_script", "_law_k"] (defScope s_law_big) := ⟨rfl, rfl, rfl, by decide +kernel, rfl, by decide +kernel, by decide +kernel⟩
theorem ok_law_big_fn {f : Addr} {fd : FuncData} (FD : FunD K d_law_big.name d_law_big.qual d_law_big.params d_law_big.body d_law_big.scope (He.DefD.dvs K d_law_big) (He.DefD.kws K d_law_big) f fd) (Y : Fx w K mg) : FnOk P w K mg base CX0 2 f fd ["_law_script", "_law_k"] (spS K 2 F_law_big) := by
  refine fn_ok FD sc_law_big fun cdv A outer s H E hr => ?_
  exact (sds_cons (sd_if (td_eq hr (ed_mod (ed_callP (ok_law_cell_at Y) rfl hr (by decide) (by rfl) dd0 (ad_cons (ed_var (pv 0)) (ad_cons ed_int ad_nil))) ed_int) ed_int) (sds_one (sd_ret (ed_callP (ok_law_cell_at Y) rfl hr (by decide) (by rfl) dd0 (ad_cons (ed_var (pv 0)) (ad_cons (ed_var (pv 1)) ad_nil))))) sds_nil)
  (sds_one (sd_ret (ed_callP (ok_law_rich Y) rfl hr (by decide) (by rfl) dd0 (ad_cons (ed_callP (ok_law_cell_at Y) rfl hr (by decide) (by rfl) dd0 (ad_cons (ed_var (pv 0)) (ad_cons (ed_var (pv 1)) ad_nil))) (ad_cons (ed_var (pv 1)) ad_nil))))))
theorem ok_law_big (Y : Fx w K mg) : FnC P w K mg base "_law_big" 2 ["_law_script", "_law_k"] [] F_law_big := by
  obtain ⟨fd, FD⟩ := Y.c.def_ 10 (d := d_law_big) rfl
  exact FnC.of FD (Y.glo 10) (ok_law_big_fn FD Y) fun _ _ _ _ _ _ us hl => match us, hl with | [_, _], _ => rfl
theorem sc_law_digits : FnScope ["_law_number", "_law_sizes", "_law_digits_here", "_law_size"] ["_law_number", "_law_sizes"] (defScope s_law_digits) := ⟨rfl, rfl, rfl, by decide +kernel, rfl, by decide +kernel, by decide +kernel⟩
theorem ok_law_digits_fn {f : Addr} {fd : FuncData} (FD : FunD K d_law_digits.name d_law_digits.qual d_law_digits.params d_law_digits.body d_law_digits.scope (He.DefD.dvs K d_law_digits) (He.DefD.kws K d_law_digits) f fd) (Y : Fx w K mg) : FnOk P w K mg base CX0 1 f fd ["_law_number", "_law_sizes"] (spS K 2 F_law_digits) := by
  refine fn_ok FD sc_law_digits fun cdv A outer s H E hr => ?_
  exact (sds_cons (sd_set (ps_set (i := 2) sc_law_digits.nd rfl (by first | exact .inl rfl | exact .inr rfl) (ED.pe (ed_lstM ad_nil))))
  (sds_cons (sd_for (ps_for PassesOwn.never rfl (Dn.ID.pi (id_seq (ed_var (pv 1)))) (GD.pg (gd_name (pg_name (i := 3) sc_law_digits.nd rfl (by first | exact .inl rfl | exact .inr rfl)))) (SDs.ps (sds_cons (sd_expr (ed_mt ok_append (ed_var (pv 2)) (ad_cons (ed_mod (ed_var (pv 0)) (ed_var (pv 3))) ad_nil) (fun ho ha => pe_bm PySem.F.plainAttrs_list PySem.F.slot_list_append PySem.F.type_list_append mt_append ho ha)))
  (sds_one (sd_set (ps_set (i := 0) sc_law_digits.nd rfl (by first | exact .inl rfl | exact .inr rfl) (ED.pe (ed_div (ed_var (pv 0)) (ed_var (pv 3)))))))))))
  (sds_one (sd_ret (ed_var (pv 2))))))
theorem ok_law_digits (Y : Fx w K mg) : FnC P w K mg base "_law_digits" 1 ["_law_number", "_law_sizes"] [] F_law_digits := by
  obtain ⟨fd, FD⟩ := Y.c.def_ 11 (d := d_law_digits) rfl
  exact FnC.of FD (Y.glo 11) (ok_law_digits_fn FD Y) fun _ _ _ _ _ _ us hl => match us, hl with | [_, _], _ => rfl
theorem sc_law_names : FnScope ["_law_number", "_law_many", "_law_letters", "_law_found", "_law_digits_here", "_law_word", "_law_k"] ["_law_number", "_law_many"] (defScope s_law_names) := ⟨rfl, rfl, rfl, by decide +kernel, rfl, by decide +kernel, by decide +kernel⟩
theorem ok_law_names_fn {f : Addr} {fd : FuncData} (FD : FunD K d_law_names.name d_law_names.qual d_law_names.params d_law_names.body d_law_names.scope (He.DefD.dvs K d_law_names) (He.DefD.kws K d_law_names) f fd) (Y : Fx w K mg) : FnOk P w K mg base CX0 2 f fd ["_law_number", "_law_many"] (spS K 2 F_law_names) := by
  refine fn_ok FD sc_law_names fun cdv A outer s H E hr => ?_
  exact (sds_cons (sd_set (ps_set (i := 2) sc_law_names.nd rfl (by first | exact .inl rfl | exact .inr rfl) (ED.pe ed_str)))
  (sds_cons (sd_set (ps_set (i := 3) sc_law_names.nd rfl (by first | exact .inl rfl | exact .inr rfl) (ED.pe (ed_lstM ad_nil))))
  (sds_cons (sd_while _ (ps_while PassesOwn.never (TD.pt (td_lt (ed_prim (fun ha => pe_callB (x := "len") call_lenAll (by rfl) Y.tb.len boot_len ha) ok_len (ad_cons (ed_var (pv 3)) ad_nil)) (ed_var (pv 1)))) (SDs.ps (sds_cons (sd_set (ps_set (i := 4) sc_law_names.nd rfl (by first | exact .inl rfl | exact .inr rfl) (ED.pe (ed_callP (ok_law_digits Y) rfl hr (by decide) (by rfl) dd0 (ad_cons (ed_var (pv 0)) (ad_cons (ed_lst (ad_cons ed_int (ad_cons ed_int (ad_cons ed_int (ad_cons ed_int (ad_cons ed_int (ad_cons ed_int (ad_cons ed_int ad_nil)))))))) ad_nil))))))
  (sds_cons (sd_set (ps_set (i := 5) sc_law_names.nd rfl (by first | exact .inl rfl | exact .inr rfl) (ED.pe (ed_m1 ok_join ed_str (ed_lc (pe_lc (own := [("_law_k", 6)]) rfl sc_law_names.nd (Dn.ID.pi (id_range1 (ad_cons (ed_add ed_int (ed_ix hr (ed_var (pv 4)) ed_int (fun _ _ => rfl))) ad_nil) (fun ha => pi_range1 (by rfl) Y.tb.range ha))) (blkOk_by (by rfl)) (fun _ _ _ _ _ => (pg_name (i := 6) sc_law_names.nd rfl (by first | exact .inl rfl | exact .inr rfl))) (fun _ _ _ _ _ => pts_nil) (fun _ _ _ _ _ => (ED.pe (ed_ix hr (ed_var (pv 2)) (ed_ix hr (ed_var (pv 4)) (ed_add ed_int (ed_var (pv 6))) (fun _ _ => rfl)) (fun _ _ => rfl))))) (gw_name (by decide)) yes_of) (fun ho hb => pe_join ho hb)))))
  (sds_cons (sd_set (ps_set (i := 0) sc_law_names.nd rfl (by first | exact .inl rfl | exact .inr rfl) (ED.pe (ed_div (ed_var (pv 0)) (ed_mul ed_int (ed_pow ed_int ed_int))))))
  (sds_cons (sd_while _ (ps_while PassesOwn.never (TD.pt (td_in hr (ed_var (pv 5)) (ed_var (pv 3)) rfl)) (SDs.ps (sds_one (sd_set (ps_set (i := 5) sc_law_names.nd rfl (by first | exact .inl rfl | exact .inr rfl) (ED.pe (ed_add (ed_sl (ed_var (pv 5)) od_none (od_some (ed_neg ed_int))) (ed_ix hr (ed_var (pv 2)) (ed_mod (ed_add (ed_m1 (fun F S H x y vy d S1 Q _ R => ok_sidx F S H x y vy d S1 Q R) (ed_var (pv 2)) (ed_ix hr (ed_var (pv 5)) (ed_neg ed_int) (fun _ _ => rfl)) (fun ho hb => pe_m1 PySem.F.slot_str_index PySem.F.type_str_index mt_sindex ho hb)) ed_int) ed_int) (fun _ _ => rfl))))))))))
  (sds_one (sd_expr (ed_mt ok_append (ed_var (pv 3)) (ad_cons (ed_var (pv 5)) ad_nil) (fun ho ha => pe_bm PySem.F.plainAttrs_list PySem.F.slot_list_append PySem.F.type_list_append mt_append ho ha)))))))))))
  (sds_one (sd_ret (ed_var (pv 3)))))))
theorem ok_law_names (Y : Fx w K mg) : FnC P w K mg base "_law_names" 2 ["_law_number", "_law_many"] [] F_law_names := by
  obtain ⟨fd, FD⟩ := Y.c.def_ 12 (d := d_law_names) rfl
  exact FnC.of FD (Y.glo 12) (ok_law_names_fn FD Y) fun _ _ _ _ _ _ us hl => match us, hl with | [_, _], _ => rfl
theorem sc_law_world : FnScope ["_law_script", "_law_number", "_law_things", "_law_cells", "_law_k", "_law_shelves", "_law_count", "_law_more", "_law_many"] ["_law_script"] (defScope s_law_world) := ⟨rfl, rfl, rfl, by decide +kernel, rfl, by decide +kernel, by decide +kernel⟩
theorem ok_law_world_fn {f : Addr} {fd : FuncData} (FD : FunD K d_law_world.name d_law_world.qual d_law_world.params d_law_world.body d_law_world.scope (He.DefD.dvs K d_law_world) (He.DefD.kws K d_law_world) f fd) (Y : Fx w K mg) : FnOk P w K mg base CX0 3 f fd ["_law_script"] (spS K 1 F_law_world) := by
  refine fn_ok FD sc_law_world fun cdv A outer s H E hr => ?_
  exact (sds_cons (sd_set (ps_set (i := 1) sc_law_world.nd rfl (by first | exact .inl rfl | exact .inr rfl) (ED.pe (ed_callP (ok_law_big Y) rfl hr (by decide) (by rfl) dd0 (ad_cons (ed_var (pv 0)) (ad_cons ed_int ad_nil))))))
  (sds_cons (sd_asg (ps_asg (ED.pe (ed_callP (ok_law_digits Y) rfl hr (by decide) (by rfl) dd0 (ad_cons (ed_var (pv 1)) (ad_cons (ed_lst (ad_cons ed_int (ad_cons ed_int (ad_cons ed_int ad_nil)))) ad_nil)))) (GD.pg (gd_l rfl (gds_c (gd_name (pg_name (i := 6) sc_law_world.nd rfl (by first | exact .inl rfl | exact .inr rfl))) (gds_c (gd_name (pg_name (i := 7) sc_law_world.nd rfl (by first | exact .inl rfl | exact .inr rfl))) (gds_c (gd_name (pg_name (i := 8) sc_law_world.nd rfl (by first | exact .inl rfl | exact .inr rfl))) gds_nil)))))))
  (sds_cons (sd_set (ps_set (i := 1) sc_law_world.nd rfl (by first | exact .inl rfl | exact .inr rfl) (ED.pe (ed_div (ed_var (pv 1)) ed_int))))
  (sds_cons (sd_set (ps_set (i := 2) sc_law_world.nd rfl (by first | exact .inl rfl | exact .inr rfl) (ED.pe (ed_callP (ok_law_names Y) rfl hr (by decide) (by rfl) dd0 (ad_cons (ed_callP (ok_law_big Y) rfl hr (by decide) (by rfl) dd0 (ad_cons (ed_var (pv 0)) (ad_cons (ed_ix hr (ed_lst (ad_cons ed_int (ad_cons ed_int (ad_cons ed_int ad_nil)))) (ed_mod (ed_div (ed_callP (ok_law_cell_at Y) rfl hr (by decide) (by rfl) dd0 (ad_cons (ed_var (pv 0)) (ad_cons ed_int ad_nil))) ed_int) ed_int) (fun _ _ => rfl)) ad_nil))) (ad_cons ed_int ad_nil))))))
  (sds_cons (sd_set (ps_set (i := 3) sc_law_world.nd rfl (by first | exact .inl rfl | exact .inr rfl) (ED.pe (ed_lstM ad_nil))))
  (sds_cons (sd_for (ps_for PassesOwn.never rfl (Dn.ID.pi (id_range1 (ad_cons (ed_var (pv 6)) ad_nil) (fun ha => pi_range1 (by rfl) Y.tb.range ha))) (GD.pg (gd_name (pg_name (i := 4) sc_law_world.nd rfl (by first | exact .inl rfl | exact .inr rfl)))) (SDs.ps (sds_cons (sd_expr (ed_mt ok_append (ed_var (pv 3)) (ad_cons (ed_tup (ad_cons (ed_ix hr (ed_var (pv 2)) (ed_var (pv 4)) (fun _ _ => rfl)) (ad_cons (ed_mod (ed_var (pv 1)) (ed_pow ed_int ed_int)) (ad_cons (ed_eq hr (ed_mod (ed_div (ed_var (pv 1)) (ed_pow ed_int ed_int)) ed_int) ed_int) ad_nil)))) ad_nil) (fun ho ha => pe_bm PySem.F.plainAttrs_list PySem.F.slot_list_append PySem.F.type_list_append mt_append ho ha)))
  (sds_one (sd_set (ps_set (i := 1) sc_law_world.nd rfl (by first | exact .inl rfl | exact .inr rfl) (ED.pe (ed_div (ed_var (pv 1)) (ed_pow ed_int ed_int))))))))))
  (sds_cons (sd_set (ps_set (i := 5) sc_law_world.nd rfl (by first | exact .inl rfl | exact .inr rfl) (ED.pe (ed_lstM ad_nil))))
  (sds_cons (sd_for (ps_for PassesOwn.never rfl (Dn.ID.pi (id_range1 (ad_cons (ed_var (pv 7)) ad_nil) (fun ha => pi_range1 (by rfl) Y.tb.range ha))) (GD.pg (gd_name (pg_name (i := 4) sc_law_world.nd rfl (by first | exact .inl rfl | exact .inr rfl)))) (SDs.ps (sds_cons (sd_expr (ed_mt ok_append (ed_var (pv 5)) (ad_cons (ed_tup (ad_cons (ed_ix hr (ed_var (pv 2)) (ed_add ed_int (ed_var (pv 4))) (fun _ _ => rfl)) (ad_cons (ed_add ed_int (ed_mod (ed_var (pv 1)) ed_int)) (ad_cons (ed_eq hr (ed_mod (ed_div (ed_var (pv 1)) ed_int) ed_int) ed_int) ad_nil)))) ad_nil) (fun ho ha => pe_bm PySem.F.plainAttrs_list PySem.F.slot_list_append PySem.F.type_list_append mt_append ho ha)))
  (sds_one (sd_set (ps_set (i := 1) sc_law_world.nd rfl (by first | exact .inl rfl | exact .inr rfl) (ED.pe (ed_div (ed_var (pv 1)) ed_int)))))))))
  (sds_one (sd_ret (ed_tup (ad_cons (ed_callP (ok_law_names Y) rfl hr (by decide) (by rfl) dd0 (ad_cons (ed_callP (ok_law_big Y) rfl hr (by decide) (by rfl) dd0 (ad_cons (ed_var (pv 0)) (ad_cons ed_int ad_nil))) (ad_cons (ed_add ed_int (ed_var (pv 8))) ad_nil))) (ad_cons (ed_prim (fun ha => pe_callTy (x := "tuple") call_tupAll (by rfl) Y.tb.tuple boot_tuple ha) ok_tuple (ad_cons (ed_var (pv 3)) ad_nil)) (ad_cons (ed_prim (fun ha => pe_callTy (x := "tuple") call_tupAll (by rfl) Y.tb.tuple boot_tuple ha) ok_tuple (ad_cons (ed_var (pv 5)) ad_nil)) (ad_cons (ed_var (pv 1)) ad_nil)))))))))))))))
theorem ok_law_world (Y : Fx w K mg) : FnC P w K mg base "_law_world" 3 ["_law_script"] [] F_law_world := by
  obtain ⟨fd, FD⟩ := Y.c.def_ 13 (d := d_law_world) rfl
  exact FnC.of FD (Y.glo 13) (ok_law_world_fn FD Y) fun _ _ _ _ _ _ us hl => match us, hl with | [_], _ => rfl
theorem sc_law_row : FnScope ["_law_number", "_law_world_here", "_law_many", "_law_sizes", "_law_size", "_law_atoms", "_law_one", "_law_other", "_law_some_here", "_law_boxes", "_law_cells", "_law_shelves", "_law_rest", "_law_kind", "_law_x", "_law_c", "_law_f", "_law_sign", "_law_goal"] ["_law_number", "_law_world_here", "_law_many"] (defScope s_law_row) := ⟨rfl, rfl, rfl, by decide +kernel, rfl, by decide +kernel, by decide +kernel⟩
theorem ok_law_row_fn {f : Addr} {fd : FuncData} (FD : FunD K d_law_row.name d_law_row.qual d_law_row.params d_law_row.body d_law_row.scope (He.DefD.dvs K d_law_row) (He.DefD.kws K d_law_row) f fd) (Y : Fx w K mg) : FnOk P w K mg base CX0 2 f fd ["_law_number", "_law_world_here", "_law_many"] (spS K 3 F_law_row) := by
  refine fn_ok FD sc_law_row fun cdv A outer s H E hr => ?_
  exact (sds_cons (sd_asg (ps_asg (ED.pe (ed_var (pv 1))) (GD.pg (gd_t rfl (gds_c (gd_name (pg_name (i := 9) sc_law_row.nd rfl (by first | exact .inl rfl | exact .inr rfl))) (gds_c (gd_name (pg_name (i := 10) sc_law_row.nd rfl (by first | exact .inl rfl | exact .inr rfl))) (gds_c (gd_name (pg_name (i := 11) sc_law_row.nd rfl (by first | exact .inl rfl | exact .inr rfl))) (gds_c (gd_name (pg_name (i := 12) sc_law_row.nd rfl (by first | exact .inl rfl | exact .inr rfl))) gds_nil))))))))
  (sds_cons (sd_set (ps_set (i := 3) sc_law_row.nd rfl (by first | exact .inl rfl | exact .inr rfl) (ED.pe (ed_lst (ad_cons ed_int (ad_cons (ed_prim (fun ha => pe_callB (x := "len") call_lenAll (by rfl) Y.tb.len boot_len ha) ok_len (ad_cons (ed_var (pv 9)) ad_nil)) (ad_cons (ed_prim (fun ha => pe_callB (x := "max") (call_maxAll rfl) (by rfl) Y.tb.max boot_max ha) ok_max (ad_cons ed_int (ad_cons (ed_prim (fun ha => pe_callB (x := "len") call_lenAll (by rfl) Y.tb.len boot_len ha) ok_len (ad_cons (ed_var (pv 10)) ad_nil)) ad_nil))) (ad_cons (ed_prim (fun ha => pe_callB (x := "max") (call_maxAll rfl) (by rfl) Y.tb.max boot_max ha) ok_max (ad_cons ed_int (ad_cons (ed_prim (fun ha => pe_callB (x := "len") call_lenAll (by rfl) Y.tb.len boot_len ha) ok_len (ad_cons (ed_var (pv 11)) ad_nil)) ad_nil))) (ad_cons ed_int (ad_cons (ed_var (pv 2)) ad_nil))))))))))
  (sds_cons (sd_asg (ps_asg (ED.pe (ed_callP (ok_law_digits Y) rfl hr (by decide) (by rfl) dd0 (ad_cons (ed_var (pv 0)) (ad_cons (ed_var (pv 3)) ad_nil)))) (GD.pg (gd_l rfl (gds_c (gd_name (pg_name (i := 13) sc_law_row.nd rfl (by first | exact .inl rfl | exact .inr rfl))) (gds_c (gd_name (pg_name (i := 14) sc_law_row.nd rfl (by first | exact .inl rfl | exact .inr rfl))) (gds_c (gd_name (pg_name (i := 15) sc_law_row.nd rfl (by first | exact .inl rfl | exact .inr rfl))) (gds_c (gd_name (pg_name (i := 16) sc_law_row.nd rfl (by first | exact .inl rfl | exact .inr rfl))) (gds_c (gd_name (pg_name (i := 17) sc_law_row.nd rfl (by first | exact .inl rfl | exact .inr rfl))) (gds_c (gd_name (pg_name (i := 18) sc_law_row.nd rfl (by first | exact .inl rfl | exact .inr rfl))) gds_nil))))))))))
  (sds_cons (sd_for (ps_for PassesOwn.never rfl (Dn.ID.pi (id_seq (ed_var (pv 3)))) (GD.pg (gd_name (pg_name (i := 4) sc_law_row.nd rfl (by first | exact .inl rfl | exact .inr rfl)))) (SDs.ps (sds_one (sd_set (ps_set (i := 0) sc_law_row.nd rfl (by first | exact .inl rfl | exact .inr rfl) (ED.pe (ed_div (ed_var (pv 0)) (ed_var (pv 4))))))))))
  (sds_cons (sd_set (ps_set (i := 5) sc_law_row.nd rfl (by first | exact .inl rfl | exact .inr rfl) (ED.pe (ed_callP (ok_law_digits Y) rfl hr (by decide) (by rfl) dd0 (ad_cons (ed_var (pv 0)) (ad_cons (ed_lst (ad_cons (ed_add (ed_prim (fun ha => pe_callB (x := "len") call_lenAll (by rfl) Y.tb.len boot_len ha) ok_len (ad_cons (ed_var (pv 9)) ad_nil)) ed_int) (ad_cons (ed_pow ed_int ed_int) (ad_cons (ed_add (ed_prim (fun ha => pe_callB (x := "len") call_lenAll (by rfl) Y.tb.len boot_len ha) ok_len (ad_cons (ed_var (pv 9)) ad_nil)) ed_int) (ad_cons (ed_pow ed_int ed_int) ad_nil))))) ad_nil))))))
  (sds_cons (sd_set (ps_set (i := 6) sc_law_row.nd rfl (by first | exact .inl rfl | exact .inr rfl) (ED.pe (ed_ix hr (ed_add (ed_var (pv 9)) (ed_lst (ad_cons (ed_ix hr (ed_var (pv 5)) ed_int (fun _ _ => rfl)) ad_nil))) (ed_ix hr (ed_var (pv 5)) ed_int (fun _ _ => rfl)) (fun _ _ => rfl)))))
  (sds_cons (sd_set (ps_set (i := 7) sc_law_row.nd rfl (by first | exact .inl rfl | exact .inr rfl) (ED.pe (ed_ix hr (ed_add (ed_var (pv 9)) (ed_lst (ad_cons (ed_ix hr (ed_var (pv 5)) ed_int (fun _ _ => rfl)) ad_nil))) (ed_ix hr (ed_var (pv 5)) ed_int (fun _ _ => rfl)) (fun _ _ => rfl)))))
  (sds_cons (sd_if (TDW.td (tw_and (td_in hr (ed_var (pv 13)) (ed_tup (ad_cons ed_int (ad_cons ed_int ad_nil))) rfl) (tw_and1 (td_ne hr (ed_var (pv 10)) (ed_tup ad_nil))))) (sds_one (sd_ret (ed_ix hr (ed_lst (ad_cons (ed_tup (ad_cons ed_str (ad_cons (ed_ix hr (ed_var (pv 9)) (ed_var (pv 14)) (fun _ _ => rfl)) (ad_cons (ed_ix hr (ed_ix hr (ed_var (pv 10)) (ed_var (pv 15)) (fun _ _ => rfl)) ed_int (fun _ _ => rfl)) ad_nil)))) (ad_cons (ed_tup (ad_cons ed_str (ad_cons (ed_ix hr (ed_ix hr (ed_var (pv 10)) (ed_var (pv 15)) (fun _ _ => rfl)) ed_int (fun _ _ => rfl)) (ad_cons (ed_var (pv 6)) ad_nil)))) ad_nil))) (ed_sub (ed_var (pv 13)) ed_int) (fun _ _ => rfl)))) sds_nil)
  (sds_cons (sd_if (TDW.td (tw_and (td_in hr (ed_var (pv 13)) (ed_tup (ad_cons ed_int (ad_cons ed_int ad_nil))) rfl) (tw_and1 (td_ne hr (ed_var (pv 11)) (ed_tup ad_nil))))) (sds_one (sd_ret (ed_ix hr (ed_lst (ad_cons (ed_tup (ad_cons ed_str (ad_cons (ed_ix hr (ed_var (pv 9)) (ed_var (pv 14)) (fun _ _ => rfl)) (ad_cons (ed_ix hr (ed_ix hr (ed_var (pv 11)) (ed_var (pv 16)) (fun _ _ => rfl)) ed_int (fun _ _ => rfl)) (ad_cons (ed_var (pv 6)) ad_nil))))) (ad_cons (ed_tup (ad_cons ed_str (ad_cons (ed_ix hr (ed_ix hr (ed_var (pv 11)) (ed_var (pv 16)) (fun _ _ => rfl)) ed_int (fun _ _ => rfl)) (ad_cons (ed_var (pv 6)) (ad_cons (ed_var (pv 7)) ad_nil))))) ad_nil))) (ed_sub (ed_var (pv 13)) ed_int) (fun _ _ => rfl)))) sds_nil)
  (sds_cons (sd_if (td_eq hr (ed_var (pv 13)) ed_int) (sds_one (sd_ret (ed_tup (ad_cons ed_str (ad_cons (ed_ix hr (ed_var (pv 9)) (ed_var (pv 14)) (fun _ _ => rfl)) (ad_cons (ed_ix hr ed_str (ed_var (pv 17)) (fun _ _ => rfl)) (ad_cons (ed_var (pv 6)) (ad_cons (ed_var (pv 7)) ad_nil)))))))) sds_nil)
  (sds_cons (sd_set (ps_set (i := 8) sc_law_row.nd rfl (by first | exact .inl rfl | exact .inr rfl) (ED.pe (ed_lst (ad_cons (ed_tup (ad_cons ed_str (ad_cons (ed_ix hr (ed_var (pv 9)) (ed_var (pv 14)) (fun _ _ => rfl)) ad_nil))) (ad_cons (ed_tup (ad_cons ed_str (ad_cons (ed_var (pv 6)) ad_nil))) (ad_cons (ed_tup (ad_cons ed_str (ad_cons (ed_var (pv 6)) (ad_cons (ed_var (pv 18)) ad_nil)))) (ad_cons (ed_tup (ad_cons ed_str (ad_cons (ed_var (pv 18)) ad_nil))) (ad_cons (ed_tup (ad_cons ed_str (ad_cons (ed_var (pv 6)) ad_nil))) ad_nil)))))))))
  (sds_cons (sd_if (td_gt (ed_var (pv 13)) ed_int) (sds_one (sd_ret (ed_ix hr (ed_var (pv 8)) (ed_sub (ed_var (pv 13)) ed_int) (fun _ _ => rfl)))) sds_nil)
  (sds_one (sd_ret (ed_tup (ad_cons ed_str (ad_cons (ed_ix hr (ed_var (pv 9)) (ed_var (pv 14)) (fun _ _ => rfl)) (ad_cons (ed_var (pv 6)) ad_nil))))))))))))))))))
theorem ok_law_row (Y : Fx w K mg) : FnC P w K mg base "_law_row" 2 ["_law_number", "_law_world_here", "_law_many"] [] F_law_row := by
  obtain ⟨fd, FD⟩ := Y.c.def_ 14 (d := d_law_row) rfl
  exact FnC.of FD (Y.glo 14) (ok_law_row_fn FD Y) fun _ _ _ _ _ _ us hl => match us, hl with | [_, _, _], _ => rfl
theorem sc_law_program : FnScope ["_law_script", "_law_most", "_law_world_here", "_law_many", "_law_rows", "_law_last", "_law_goal", "_law_box", "_law_number", "_law_k"] ["_law_script", "_law_most"] (defScope s_law_program) := ⟨rfl, rfl, rfl, by decide +kernel, rfl, by decide +kernel, by decide +kernel⟩
theorem ok_law_program_fn {f : Addr} {fd : FuncData} (FD : FunD K d_law_program.name d_law_program.qual d_law_program.params d_law_program.body d_law_program.scope (He.DefD.dvs K d_law_program) (He.DefD.kws K d_law_program) f fd) (Y : Fx w K mg) : FnOk P w K mg base CX0 4 f fd ["_law_script", "_law_most"] (spS K 2 F_law_program) := by
  refine fn_ok FD sc_law_program fun cdv A outer s H E hr => ?_
  exact (sds_cons (sd_set (ps_set (i := 2) sc_law_program.nd rfl (by first | exact .inl rfl | exact .inr rfl) (ED.pe (ed_callP (ok_law_world Y) rfl hr (by decide) (by rfl) dd0 (ad_cons (ed_var (pv 0)) ad_nil)))))
  (sds_cons (sd_set (ps_set (i := 3) sc_law_program.nd rfl (by first | exact .inl rfl | exact .inr rfl) (ED.pe (ed_prim (fun ha => pe_callB (x := "max") (call_maxAll rfl) (by rfl) Y.tb.max boot_max ha) ok_max (ad_cons ed_int (ad_cons (ed_prim (fun ha => pe_callB (x := "min") (call_minAll rfl) (by rfl) Y.tb.min boot_min ha) ok_min (ad_cons (ed_sub (ed_prim (fun ha => pe_callB (x := "len") call_lenAll (by rfl) Y.tb.len boot_len ha) ok_len (ad_cons (ed_var (pv 0)) ad_nil)) ed_int) (ad_cons (ed_add ed_int (ed_var (pv 1))) ad_nil))) ad_nil))))))
  (sds_cons (sd_setLcM (i := 4) (ps_setLc (own := [("_law_k", 9)]) rfl sc_law_program.nd rfl rfl rfl (Dn.ID.pi (id_range1 (ad_cons (ed_sub (ed_var (pv 3)) ed_int) ad_nil) (fun ha => pi_range1 (by rfl) Y.tb.range ha))) (blkOk_by (by rfl)) (fun _ _ _ _ _ => (pg_name (i := 9) sc_law_program.nd rfl (by first | exact .inl rfl | exact .inr rfl))) (fun _ _ _ _ _ => pts_nil) (fun _ _ _ _ _ => (ED.pe (ed_callP (ok_law_row Y) rfl hr (by decide) (by rfl) dd0 (ad_cons (ed_callP (ok_law_big Y) rfl hr (by decide) (by rfl) dd0 (ad_cons (ed_var (pv 0)) (ad_cons (ed_add ed_int (ed_var (pv 9))) ad_nil))) (ad_cons (ed_var (pv 2)) (ad_cons (ed_var (pv 3)) ad_nil))))))) (gw_name (by decide)) yes_of)
  (sds_cons (sd_asg (ps_asg (ED.pe (ed_callP (ok_law_digits Y) rfl hr (by decide) (by rfl) dd0 (ad_cons (ed_ix hr (ed_var (pv 2)) ed_int (fun _ _ => rfl)) (ad_cons (ed_lst (ad_cons ed_int (ad_cons (ed_var (pv 3)) (ad_cons (ed_add (ed_prim (fun ha => pe_callB (x := "len") call_lenAll (by rfl) Y.tb.len boot_len ha) ok_len (ad_cons (ed_ix hr (ed_var (pv 2)) ed_int (fun _ _ => rfl)) ad_nil)) ed_int) (ad_cons (ed_pow ed_int ed_int) ad_nil))))) ad_nil)))) (GD.pg (gd_l rfl (gds_c (gd_name (pg_name (i := 5) sc_law_program.nd rfl (by first | exact .inl rfl | exact .inr rfl))) (gds_c (gd_name (pg_name (i := 6) sc_law_program.nd rfl (by first | exact .inl rfl | exact .inr rfl))) (gds_c (gd_name (pg_name (i := 7) sc_law_program.nd rfl (by first | exact .inl rfl | exact .inr rfl))) (gds_c (gd_name (pg_name (i := 8) sc_law_program.nd rfl (by first | exact .inl rfl | exact .inr rfl))) gds_nil))))))))
  (sds_cons (sd_expr (ed_mt ok_append (ed_var (pv 4)) (ad_cons (ed_ix hr (ed_lst (ad_cons (ed_tup (ad_cons ed_str (ad_cons (ed_ix hr (ed_add (ed_ix hr (ed_var (pv 2)) ed_int (fun _ _ => rfl)) (ed_lst (ad_cons (ed_var (pv 8)) ad_nil))) (ed_var (pv 7)) (fun _ _ => rfl)) ad_nil))) (ad_cons (ed_tup (ad_cons ed_str (ad_cons (ed_var (pv 6)) ad_nil))) ad_nil))) (ed_var (pv 5)) (fun _ _ => rfl)) ad_nil) (fun ho ha => pe_bm PySem.F.plainAttrs_list PySem.F.slot_list_append PySem.F.type_list_append mt_append ho ha)))
  (sds_one (sd_ret (ed_tup (ad_cons (ed_ix hr (ed_var (pv 2)) ed_int (fun _ _ => rfl)) (ad_cons (ed_ix hr (ed_var (pv 2)) ed_int (fun _ _ => rfl)) (ad_cons (ed_prim (fun ha => pe_callTy (x := "tuple") call_tupAll (by rfl) Y.tb.tuple boot_tuple ha) ok_tuple (ad_cons (ed_var (pv 4)) ad_nil)) ad_nil)))))))))))
theorem ok_law_program (Y : Fx w K mg) : FnC P w K mg base "_law_program" 4 ["_law_script", "_law_most"] [] F_law_program := by
  obtain ⟨fd, FD⟩ := Y.c.def_ 15 (d := d_law_program) rfl
  exact FnC.of FD (Y.glo 15) (ok_law_program_fn FD Y) fun _ _ _ _ _ _ us hl => match us, hl with | [_, _], _ => rfl
theorem sc_law_some : FnScope ["_law_pool_here", "_law_number", "_law_j"] ["_law_pool_here", "_law_number"] (defScope s_law_some) := ⟨rfl, rfl, rfl, by decide +kernel, rfl, by decide +kernel, by decide +kernel⟩
theorem ok_law_some_fn {f : Addr} {fd : FuncData} (FD : FunD K d_law_some.name d_law_some.qual d_law_some.params d_law_some.body d_law_some.scope (He.DefD.dvs K d_law_some) (He.DefD.kws K d_law_some) f fd) (Y : Fx w K mg) : FnOk P w K mg base CX0 1 f fd ["_law_pool_here", "_law_number"] (spS K 2 F_law_some) := by
  refine fn_ok FD sc_law_some fun cdv A outer s H E hr => ?_
  exact (sds_one (sd_ret (ed_prim (fun ha => pe_callTy (x := "tuple") call_tupAll (by rfl) Y.tb.tuple boot_tuple ha) ok_tuple (ad_cons (ed_lc (pe_lc (own := [("_law_j", 2)]) rfl sc_law_some.nd (Dn.ID.pi (id_range1 (ad_cons (ed_prim (fun ha => pe_callB (x := "len") call_lenAll (by rfl) Y.tb.len boot_len ha) ok_len (ad_cons (ed_var (pv 0)) ad_nil)) ad_nil) (fun ha => pi_range1 (by rfl) Y.tb.range ha))) (blkOk_by (by rfl)) (fun _ _ _ _ _ => (pg_name (i := 2) sc_law_some.nd rfl (by first | exact .inl rfl | exact .inr rfl))) (fun _ _ _ _ _ => (pts_one (TD.pt (td_eq hr (ed_mod (ed_div (ed_var (pv 1)) (ed_shl ed_int (ed_var (pv 2)))) ed_int) ed_int)))) (fun _ _ _ _ _ => (ED.pe (ed_ix hr (ed_var (pv 0)) (ed_var (pv 2)) (fun _ _ => rfl))))) (gw_name (by decide)) same_of) ad_nil))))
theorem ok_law_some (Y : Fx w K mg) : FnC P w K mg base "_law_some" 1 ["_law_pool_here", "_law_number"] [] F_law_some := by
  obtain ⟨fd, FD⟩ := Y.c.def_ 16 (d := d_law_some) rfl
  exact FnC.of FD (Y.glo 16) (ok_law_some_fn FD Y) fun _ _ _ _ _ _ us hl => match us, hl with | [_, _], _ => rfl
theorem sc_law_cutting : FnScope ["_law_script", "_law_program_here", "_law_pool_here", "_law_number", "_law_begin", "_law_share", "_law_keeps", "_law_at"] ["_law_script", "_law_program_here", "_law_pool_here"] (defScope s_law_cutting) := ⟨rfl, rfl, rfl, by decide +kernel, rfl, by decide +kernel, by decide +kernel⟩
theorem ok_law_cutting_fn {f : Addr} {fd : FuncData} (FD : FunD K d_law_cutting.name d_law_cutting.qual d_law_cutting.params d_law_cutting.body d_law_cutting.scope (He.DefD.dvs K d_law_cutting) (He.DefD.kws K d_law_cutting) f fd) (Y : Fx w K mg) : FnOk P w K mg base CX0 3 f fd ["_law_script", "_law_program_here", "_law_pool_here"] (spS K 3 F_law_cutting) := by
  refine fn_ok FD sc_law_cutting fun cdv A outer s H E hr => ?_
  exact (sds_cons (sd_set (ps_set (i := 3) sc_law_cutting.nd rfl (by first | exact .inl rfl | exact .inr rfl) (ED.pe (ed_callP (ok_law_big Y) rfl hr (by decide) (by rfl) dd0 (ad_cons (ed_var (pv 0)) (ad_cons ed_int ad_nil))))))
  (sds_cons (sd_set (ps_set (i := 4) sc_law_cutting.nd rfl (by first | exact .inl rfl | exact .inr rfl) (ED.pe (ed_callP (ok_law_some Y) rfl hr (by decide) (by rfl) dd0 (ad_cons (ed_var (pv 2)) (ad_cons (ed_var (pv 3)) ad_nil))))))
  (sds_cons (sd_set (ps_set (i := 3) sc_law_cutting.nd rfl (by first | exact .inl rfl | exact .inr rfl) (ED.pe (ed_div (ed_var (pv 3)) (ed_shl ed_int (ed_prim (fun ha => pe_callB (x := "len") call_lenAll (by rfl) Y.tb.len boot_len ha) ok_len (ad_cons (ed_var (pv 2)) ad_nil)))))))
  (sds_cons (sd_set (ps_set (i := 5) sc_law_cutting.nd rfl (by first | exact .inl rfl | exact .inr rfl) (ED.pe ed_int)))
  (sds_cons (sd_set (ps_set (i := 6) sc_law_cutting.nd rfl (by first | exact .inl rfl | exact .inr rfl) (ED.pe (ed_lstM ad_nil))))
  (sds_cons (sd_for (ps_for PassesOwn.never rfl (Dn.ID.pi (id_range1 (ad_cons (ed_prim (fun ha => pe_callB (x := "len") call_lenAll (by rfl) Y.tb.len boot_len ha) ok_len (ad_cons (ed_ix hr (ed_var (pv 1)) ed_int (fun _ _ => rfl)) ad_nil)) ad_nil) (fun ha => pi_range1 (by rfl) Y.tb.range ha))) (GD.pg (gd_name (pg_name (i := 7) sc_law_cutting.nd rfl (by first | exact .inl rfl | exact .inr rfl)))) (SDs.ps (sds_cons (sd_if (td_eq hr (ed_mod (ed_callP (ok_law_cell_at Y) rfl hr (by decide) (by rfl) dd0 (ad_cons (ed_var (pv 0)) (ad_cons ed_int ad_nil))) ed_int) ed_int) (sds_cons (sd_set (ps_set (i := 3) sc_law_cutting.nd rfl (by first | exact .inl rfl | exact .inr rfl) (ED.pe (ed_callP (ok_law_rich Y) rfl hr (by decide) (by rfl) dd0 (ad_cons (ed_var (pv 3)) (ad_cons (ed_var (pv 7)) ad_nil))))))
  (sds_one (sd_set (ps_set (i := 5) sc_law_cutting.nd rfl (by first | exact .inl rfl | exact .inr rfl) (ED.pe (ed_ix hr (ed_lst (ad_cons ed_int (ad_cons ed_int (ad_cons ed_int ad_nil)))) (ed_mod (ed_div (ed_callP (ok_law_cell_at Y) rfl hr (by decide) (by rfl) dd0 (ad_cons (ed_var (pv 0)) (ad_cons ed_int ad_nil))) ed_int) ed_int) (fun _ _ => rfl))))))) sds_nil)
  (sds_cons (sd_if (td_eq hr (ed_mod (ed_var (pv 3)) (ed_var (pv 5))) ed_int) (sds_one (sd_expr (ed_mt ok_append (ed_var (pv 6)) (ad_cons (ed_tup (ad_cons (ed_var (pv 7)) (ad_cons (ed_callP (ok_law_some Y) rfl hr (by decide) (by rfl) dd0 (ad_cons (ed_var (pv 2)) (ad_cons (ed_div (ed_var (pv 3)) (ed_var (pv 5))) ad_nil))) ad_nil))) ad_nil) (fun ho ha => pe_bm PySem.F.plainAttrs_list PySem.F.slot_list_append PySem.F.type_list_append mt_append ho ha)))) sds_nil)
  (sds_one (sd_set (ps_set (i := 3) sc_law_cutting.nd rfl (by first | exact .inl rfl | exact .inr rfl) (ED.pe (ed_div (ed_div (ed_var (pv 3)) (ed_var (pv 5))) (ed_shl ed_int (ed_prim (fun ha => pe_callB (x := "len") call_lenAll (by rfl) Y.tb.len boot_len ha) ok_len (ad_cons (ed_var (pv 2)) ad_nil)))))))))))))
  (sds_one (sd_ret (ed_tup (ad_cons (ed_var (pv 4)) (ad_cons (ed_prim (fun ha => pe_callTy (x := "tuple") call_tupAll (by rfl) Y.tb.tuple boot_tuple ha) ok_tuple (ad_cons (ed_var (pv 6)) ad_nil)) ad_nil)))))))))))
theorem ok_law_cutting (Y : Fx w K mg) : FnC P w K mg base "_law_cutting" 3 ["_law_script", "_law_program_here", "_law_pool_here"] [] F_law_cutting := by
  obtain ⟨fd, FD⟩ := Y.c.def_ 17 (d := d_law_cutting) rfl
  exact FnC.of FD (Y.glo 17) (ok_law_cutting_fn FD Y) fun _ _ _ _ _ _ us hl => match us, hl with | [_, _, _], _ => rfl
theorem sc_law_pool : FnScope ["_law_script", "_law_boxes", "_law_cells", "_law_shelves", "_law_rest", "_law_one"] ["_law_script"] (defScope s_law_pool) := ⟨rfl, rfl, rfl, by decide +kernel, rfl, by decide +kernel, by decide +kernel⟩
theorem ok_law_pool_fn {f : Addr} {fd : FuncData} (FD : FunD K d_law_pool.name d_law_pool.qual d_law_pool.params d_law_pool.body d_law_pool.scope (He.DefD.dvs K d_law_pool) (He.DefD.kws K d_law_pool) f fd) (Y : Fx w K mg) : FnOk P w K mg base CX0 4 f fd ["_law_script"] (spS K 1 F_law_pool) := by
  refine fn_ok FD sc_law_pool fun cdv A outer s H E hr => ?_
  exact (sds_cons (sd_asg (ps_asg (ED.pe (ed_callP (ok_law_world Y) rfl hr (by decide) (by rfl) dd0 (ad_cons (ed_var (pv 0)) ad_nil))) (GD.pg (gd_t rfl (gds_c (gd_name (pg_name (i := 1) sc_law_pool.nd rfl (by first | exact .inl rfl | exact .inr rfl))) (gds_c (gd_name (pg_name (i := 2) sc_law_pool.nd rfl (by first | exact .inl rfl | exact .inr rfl))) (gds_c (gd_name (pg_name (i := 3) sc_law_pool.nd rfl (by first | exact .inl rfl | exact .inr rfl))) (gds_c (gd_name (pg_name (i := 4) sc_law_pool.nd rfl (by first | exact .inl rfl | exact .inr rfl))) gds_nil))))))))
  (sds_one (sd_ret (ed_sortSet Y.tb rfl rfl (ed_add (ed_add (ed_var (pv 1)) (ed_lc (pe_lc (own := [("_law_one", 5)]) rfl sc_law_pool.nd (Dn.ID.pi (id_seq (ed_sl (ed_var (pv 2)) od_none (od_some ed_int)))) (blkOk_by (by rfl)) (fun _ _ _ _ _ => (pg_name (i := 5) sc_law_pool.nd rfl (by first | exact .inl rfl | exact .inr rfl))) (fun _ _ _ _ _ => pts_nil) (fun _ _ _ _ _ => (ED.pe (ed_ix hr (ed_var (pv 5)) ed_int (fun _ _ => rfl))))) (gw_name (by decide)) yes_of)) (ed_lst (ad_cons ed_str ad_nil)))))))
theorem ok_law_pool (Y : Fx w K mg) : FnC P w K mg base "_law_pool" 4 ["_law_script"] [] F_law_pool := by
  obtain ⟨fd, FD⟩ := Y.c.def_ 18 (d := d_law_pool) rfl
  exact FnC.of FD (Y.glo 18) (ok_law_pool_fn FD Y) fun _ _ _ _ _ _ us hl => match us, hl with | [_], _ => rfl
theorem sc_law_exits : FnScope ["_law_rows", "_law_at"] ["_law_rows", "_law_at"] (defScope s_law_exits) := ⟨rfl, rfl, rfl, by decide +kernel, rfl, by decide +kernel, by decide +kernel⟩
theorem ok_law_exits_fn {f : Addr} {fd : FuncData} (FD : FunD K d_law_exits.name d_law_exits.qual d_law_exits.params d_law_exits.body d_law_exits.scope (He.DefD.dvs K d_law_exits) (He.DefD.kws K d_law_exits) f fd) (Y : Fx w K mg) : FnOk P w K mg base CX0 1 f fd ["_law_rows", "_law_at"] (spS K 2 F_law_exits) := by
  refine fn_ok FD sc_law_exits fun cdv A outer s H E hr => ?_
  exact (sds_cons (sd_if (td_eq hr (ed_ix hr (ed_ix hr (ed_var (pv 0)) (ed_var (pv 1)) (fun _ _ => rfl)) ed_int (fun _ _ => rfl)) ed_str) (sds_one (sd_ret (ed_lst ad_nil))) sds_nil)
  (sds_cons (sd_if (td_eq hr (ed_ix hr (ed_ix hr (ed_var (pv 0)) (ed_var (pv 1)) (fun _ _ => rfl)) ed_int (fun _ _ => rfl)) ed_str) (sds_one (sd_ret (ed_lst (ad_cons (ed_ix hr (ed_ix hr (ed_var (pv 0)) (ed_var (pv 1)) (fun _ _ => rfl)) ed_int (fun _ _ => rfl)) ad_nil)))) sds_nil)
  (sds_cons (sd_if (td_eq hr (ed_ix hr (ed_ix hr (ed_var (pv 0)) (ed_var (pv 1)) (fun _ _ => rfl)) ed_int (fun _ _ => rfl)) ed_str) (sds_one (sd_ret (ed_lst (ad_cons (ed_ix hr (ed_ix hr (ed_var (pv 0)) (ed_var (pv 1)) (fun _ _ => rfl)) ed_int (fun _ _ => rfl)) (ad_cons (ed_add (ed_var (pv 1)) ed_int) ad_nil))))) sds_nil)
  (sds_one (sd_ret (ed_lst (ad_cons (ed_add (ed_var (pv 1)) ed_int) ad_nil)))))))
theorem ok_law_exits (Y : Fx w K mg) : FnC P w K mg base "_law_exits" 1 ["_law_rows", "_law_at"] [] F_law_exits := by
  obtain ⟨fd, FD⟩ := Y.c.def_ 19 (d := d_law_exits) rfl
  exact FnC.of FD (Y.glo 19) (ok_law_exits_fn FD Y) fun _ _ _ _ _ _ us hl => match us, hl with | [_, _], _ => rfl
theorem sc_law_whole : FnScope ["_law_found"] ["_law_found"] (defScope s_law_whole) := ⟨rfl, rfl, rfl, by decide +kernel, rfl, by decide +kernel, by decide +kernel⟩
theorem ok_law_whole_fn {f : Addr} {fd : FuncData} (FD : FunD K d_law_whole.name d_law_whole.qual d_law_whole.params d_law_whole.body d_law_whole.scope (He.DefD.dvs K d_law_whole) (He.DefD.kws K d_law_whole) f fd) (Y : Fx w K mg) : FnOk P w K mg base CX0 1 f fd ["_law_found"] (spS K 1 F_law_whole) := by
  refine fn_ok FD sc_law_whole fun cdv A outer s H E hr => ?_
  exact (sds_one (sd_ret (ed_and (e_isi (T7 := .int) Y.tb Y.tb.int (by decide) (by rfl) (by rfl) boot_int (ed_var (pv 0))) (ed_one (ed_not (e_isi (T7 := .bool) Y.tb Y.tb.bool (by decide) (by rfl) (by rfl) boot_bool (ed_var (pv 0))))))))
theorem ok_law_whole (Y : Fx w K mg) : FnC P w K mg base "_law_whole" 1 ["_law_found"] [] F_law_whole := by
  obtain ⟨fd, FD⟩ := Y.c.def_ 20 (d := d_law_whole) rfl
  exact FnC.of FD (Y.glo 20) (ok_law_whole_fn FD Y) fun _ _ _ _ _ _ us hl => match us, hl with | [_], _ => rfl
theorem sc_law_is_piece : FnScope ["_law_rows", "_law_keeps", "_law_way", "_law_k", "_law_at"] ["_law_rows", "_law_keeps", "_law_way"] (defScope s_law_is_piece) := ⟨rfl, rfl, rfl, by decide +kernel, rfl, by decide +kernel, by decide +kernel⟩
theorem ok_law_is_piece_fn {f : Addr} {fd : FuncData} (FD : FunD K d_law_is_piece.name d_law_is_piece.qual d_law_is_piece.params d_law_is_piece.body d_law_is_piece.scope (He.DefD.dvs K d_law_is_piece) (He.DefD.kws K d_law_is_piece) f fd) (Y : Fx w K mg) : FnOk P w K mg base CX0 2 f fd ["_law_rows", "_law_keeps", "_law_way"] (spS K 3 F_law_is_piece) := by
  refine fn_ok FD sc_law_is_piece fun cdv A outer s H E hr => ?_
  exact (sds_cons (sd_if (TDW.td (tw_or (td_not (td_val (e_isi (T7 := .list) Y.tb Y.tb.list (by decide) (by rfl) (by rfl) boot_list (ed_var (pv 2))))) (tw_or (td_eq hr (ed_var (pv 2)) (ed_lst ad_nil)) (tw_or1 (td_not (td_val (ed_prim (fun ha => pe_callB (x := "all") (cr_all rfl) (by rfl) Y.tb.all boot_all ha) ok_all (ad_cons (ed_lc (pe_lc (own := [("_law_at", 4)]) rfl sc_law_is_piece.nd (Dn.ID.pi (id_seq (ed_var (pv 2)))) (blkOk_by (by rfl)) (fun _ _ _ _ _ => (pg_name (i := 4) sc_law_is_piece.nd rfl (by first | exact .inl rfl | exact .inr rfl))) (fun _ _ _ _ _ => pts_nil) (fun _ _ _ _ _ => (ED.pe (ed_callP (ok_law_whole Y) rfl hr (by decide) (by rfl) dd0 (ad_cons (ed_var (pv 4)) ad_nil))))) (gw_name (by decide)) yes_of) ad_nil)))))))) (sds_one (sd_ret ed_bl)) sds_nil)
  (sds_cons (sd_if (TDW.td (tw_and (td_ne hr (ed_ix hr (ed_var (pv 2)) ed_int (fun _ _ => rfl)) ed_int) (tw_and1 (td_notin hr (ed_ix hr (ed_var (pv 2)) ed_int (fun _ _ => rfl)) (ed_var (pv 1)) rfl)))) (sds_one (sd_ret ed_bl)) sds_nil)
  (sds_cons (sd_for (ps_for PassesOwn.never rfl (Dn.ID.pi (id_range2 (ad_cons ed_int (ad_cons (ed_prim (fun ha => pe_callB (x := "len") call_lenAll (by rfl) Y.tb.len boot_len ha) ok_len (ad_cons (ed_var (pv 2)) ad_nil)) ad_nil)) (fun ha => pi_range2 (by rfl) Y.tb.range ha))) (GD.pg (gd_name (pg_name (i := 3) sc_law_is_piece.nd rfl (by first | exact .inl rfl | exact .inr rfl)))) (SDs.ps (sds_one (sd_if (TDW.td (tw_or (td_in hr (ed_ix hr (ed_var (pv 2)) (ed_var (pv 3)) (fun _ _ => rfl)) (ed_var (pv 1)) rfl) (tw_or1 (td_notin hr (ed_ix hr (ed_var (pv 2)) (ed_var (pv 3)) (fun _ _ => rfl)) (ed_callP (ok_law_exits Y) rfl hr (by decide) (by rfl) dd0 (ad_cons (ed_var (pv 0)) (ad_cons (ed_ix hr (ed_var (pv 2)) (ed_sub (ed_var (pv 3)) ed_int) (fun _ _ => rfl)) ad_nil))) rfl)))) (sds_one (sd_ret ed_bl)) sds_nil)))))
  (sds_one (sd_ret ed_bl)))))
theorem ok_law_is_piece (Y : Fx w K mg) : FnC P w K mg base "_law_is_piece" 2 ["_law_rows", "_law_keeps", "_law_way"] [] F_law_is_piece := by
  obtain ⟨fd, FD⟩ := Y.c.def_ 21 (d := d_law_is_piece) rfl
  exact FnC.of FD (Y.glo 21) (ok_law_is_piece_fn FD Y) fun _ _ _ _ _ _ us hl => match us, hl with | [_, _, _], _ => rfl
theorem sc_law_spoils : FnScope ["_law_rows", "_law_way", "_law_name", "_law_shelf", "_law_taken", "_law_put", "_law_k"] ["_law_rows", "_law_way", "_law_name", "_law_shelf"] (defScope s_law_spoils) := ⟨rfl, rfl, rfl, by decide +kernel, rfl, by decide +kernel, by decide +kernel⟩
theorem ok_law_spoils_fn {f : Addr} {fd : FuncData} (FD : FunD K d_law_spoils.name d_law_spoils.qual d_law_spoils.params d_law_spoils.body d_law_spoils.scope (He.DefD.dvs K d_law_spoils) (He.DefD.kws K d_law_spoils) f fd) (Y : Fx w K mg) : FnOk P w K mg base CX0 1 f fd ["_law_rows", "_law_way", "_law_name", "_law_shelf"] (spS K 4 F_law_spoils) := by
  refine fn_ok FD sc_law_spoils fun cdv A outer s H E hr => ?_
  exact (sds_cons (sd_setLc (i := 4) (ps_setLc (own := [("_law_k", 6)]) rfl sc_law_spoils.nd rfl rfl rfl (Dn.ID.pi (id_range1 (ad_cons (ed_prim (fun ha => pe_callB (x := "len") call_lenAll (by rfl) Y.tb.len boot_len ha) ok_len (ad_cons (ed_var (pv 1)) ad_nil)) ad_nil) (fun ha => pi_range1 (by rfl) Y.tb.range ha))) (blkOk_by (by rfl)) (fun _ _ _ _ _ => (pg_name (i := 6) sc_law_spoils.nd rfl (by first | exact .inl rfl | exact .inr rfl))) (fun _ _ _ _ _ => (pts_one (TD.pt (TDW.td (tw_and (td_in hr (ed_ix hr (ed_ix hr (ed_var (pv 0)) (ed_ix hr (ed_var (pv 1)) (ed_var (pv 6)) (fun _ _ => rfl)) (fun _ _ => rfl)) ed_int (fun _ _ => rfl)) (ed_tup (ad_cons ed_str (ad_cons ed_str ad_nil))) rfl) (tw_and1 (td_eq hr (ed_ix hr (ed_ix hr (ed_var (pv 0)) (ed_ix hr (ed_var (pv 1)) (ed_var (pv 6)) (fun _ _ => rfl)) (fun _ _ => rfl)) ed_int (fun _ _ => rfl)) (ed_var (pv 2))))))))) (fun _ _ _ _ _ => (ED.pe (ed_var (pv 6))))) (gw_name (by decide)) same_of)
  (sds_cons (sd_setLc (i := 5) (ps_setLc (own := [("_law_k", 6)]) rfl sc_law_spoils.nd rfl rfl rfl (Dn.ID.pi (id_range1 (ad_cons (ed_prim (fun ha => pe_callB (x := "len") call_lenAll (by rfl) Y.tb.len boot_len ha) ok_len (ad_cons (ed_var (pv 1)) ad_nil)) ad_nil) (fun ha => pi_range1 (by rfl) Y.tb.range ha))) (blkOk_by (by rfl)) (fun _ _ _ _ _ => (pg_name (i := 6) sc_law_spoils.nd rfl (by first | exact .inl rfl | exact .inr rfl))) (fun _ _ _ _ _ => (pts_one (TD.pt (TDW.td (tw_and (td_in hr (ed_ix hr (ed_ix hr (ed_var (pv 0)) (ed_ix hr (ed_var (pv 1)) (ed_var (pv 6)) (fun _ _ => rfl)) (fun _ _ => rfl)) ed_int (fun _ _ => rfl)) (ed_tup (ad_cons ed_str (ad_cons ed_str ad_nil))) rfl) (tw_and1 (td_eq hr (ed_ix hr (ed_ix hr (ed_var (pv 0)) (ed_ix hr (ed_var (pv 1)) (ed_var (pv 6)) (fun _ _ => rfl)) (fun _ _ => rfl)) ed_int (fun _ _ => rfl)) (ed_var (pv 2))))))))) (fun _ _ _ _ _ => (ED.pe (ed_var (pv 6))))) (gw_name (by decide)) same_of)
  (sds_cons (sd_if (TDW.td (tw_or (td_eq hr (ed_var (pv 5)) (ed_lst ad_nil)) (tw_or (td_ne hr (ed_ix hr (ed_var (pv 5)) (ed_neg ed_int) (fun _ _ => rfl)) (ed_sub (ed_prim (fun ha => pe_callB (x := "len") call_lenAll (by rfl) Y.tb.len boot_len ha) ok_len (ad_cons (ed_var (pv 1)) ad_nil)) ed_int)) (tw_or1 (td_eq hr (ed_var (pv 4)) (ed_lst ad_nil)))))) (sds_one (sd_ret ed_bl)) sds_nil)
  (sds_one (sd_ret (ed_and (ed_lt (ed_ix hr (ed_var (pv 4)) ed_int (fun _ _ => rfl)) (ed_ix hr (ed_var (pv 5)) (ed_neg ed_int) (fun _ _ => rfl))) (ed_one (ed_or (ed_var (pv 3)) (ed_one (ed_lt (ed_ix hr (ed_var (pv 4)) ed_int (fun _ _ => rfl)) (ed_ix hr (ed_var (pv 5)) ed_int (fun _ _ => rfl))))))))))))
theorem ok_law_spoils (Y : Fx w K mg) : FnC P w K mg base "_law_spoils" 1 ["_law_rows", "_law_way", "_law_name", "_law_shelf"] [] F_law_spoils := by
  obtain ⟨fd, FD⟩ := Y.c.def_ 22 (d := d_law_spoils) rfl
  exact FnC.of FD (Y.glo 22) (ok_law_spoils_fn FD Y) fun _ _ _ _ _ _ us hl => match us, hl with | [_, _, _, _], _ => rfl
theorem sc_law_reached : FnScope ["_law_rows", "_law_keeps", "_law_starts", "_law_name", "_law_seen", "_law_left", "_law_at", "_law_to"] ["_law_rows", "_law_keeps", "_law_starts", "_law_name"] (defScope s_law_reached) := ⟨rfl, rfl, rfl, by decide +kernel, rfl, by decide +kernel, by decide +kernel⟩
theorem ok_law_reached_fn {f : Addr} {fd : FuncData} (FD : FunD K d_law_reached.name d_law_reached.qual d_law_reached.params d_law_reached.body d_law_reached.scope (He.DefD.dvs K d_law_reached) (He.DefD.kws K d_law_reached) f fd) (Y : Fx w K mg) : FnOk P w K mg base CX0 2 f fd ["_law_rows", "_law_keeps", "_law_starts", "_law_name"] (spS K 4 F_law_reached) := by
  refine fn_ok FD sc_law_reached fun cdv A outer s H E hr => ?_
  exact (sds_cons (sd_set (ps_set (i := 4) sc_law_reached.nd rfl (by first | exact .inl rfl | exact .inr rfl) (ED.pe (ed_dnewK pe_dnewK))))
  (sds_cons (sd_set (ps_set (i := 5) sc_law_reached.nd rfl (by first | exact .inl rfl | exact .inr rfl) (ED.pe (ed_prim (fun ha => pe_callTy (x := "list") (call_listAll rfl) (by rfl) Y.tb.list boot_list ha) ok_listM (ad_cons (ed_var (pv 2)) ad_nil)))))
  (sds_cons (sd_while _ (ps_while PassesOwn.never (TD.pt (td_gt (ed_prim (fun ha => pe_callB (x := "len") call_lenAll (by rfl) Y.tb.len boot_len ha) ok_len (ad_cons (ed_var (pv 5)) ad_nil)) ed_int)) (SDs.ps (sds_cons (sd_set (ps_set (i := 6) sc_law_reached.nd rfl (by first | exact .inl rfl | exact .inr rfl) (ED.pe (ed_mt0 ok_pop0 (ed_var (pv 5)) (fun ho => pe_bm0 PySem.F.plainAttrs_list PySem.F.slot_list_pop PySem.F.type_list_pop mt_pop ho)))))
  (sds_one (sd_if (td_notin hr (ed_var (pv 6)) (ed_var (pv 4)) rfl) (sds_cons (sd_sub (ps_asg (ED.pe ed_bl) (pg_sub (ED.pe (ed_var (pv 4))) (ED.pe (ed_var (pv 6))) (PSet.or set_list (set_dict (hu1 hr))))))
  (sds_one (sd_if (TDW.td (tw_or (td_ne hr (ed_ix hr (ed_ix hr (ed_var (pv 0)) (ed_var (pv 6)) (fun _ _ => rfl)) ed_int (fun _ _ => rfl)) ed_str) (tw_or1 (td_ne hr (ed_ix hr (ed_ix hr (ed_var (pv 0)) (ed_var (pv 6)) (fun _ _ => rfl)) ed_int (fun _ _ => rfl)) (ed_var (pv 3)))))) (sds_one (sd_expr (ed_mt ok_extend (ed_var (pv 5)) (ad_cons (ed_lc (pe_lc (own := [("_law_to", 7)]) rfl sc_law_reached.nd (Dn.ID.pi (id_seq (ed_callP (ok_law_exits Y) rfl hr (by decide) (by rfl) dd0 (ad_cons (ed_var (pv 0)) (ad_cons (ed_var (pv 6)) ad_nil))))) (blkOk_by (by rfl)) (fun _ _ _ _ _ => (pg_name (i := 7) sc_law_reached.nd rfl (by first | exact .inl rfl | exact .inr rfl))) (fun _ _ _ _ _ => (pts_one (TD.pt (td_notin hr (ed_var (pv 7)) (ed_var (pv 1)) rfl)))) (fun _ _ _ _ _ => (ED.pe (ed_var (pv 7))))) (gw_name (by decide)) same_of) ad_nil) (fun ho ha => pe_bm PySem.F.plainAttrs_list PySem.F.slot_list_extend PySem.F.type_list_extend mt_extend ho ha)))) sds_nil))) sds_nil))))))
  (sds_one (sd_ret (ed_prim (fun ha => pe_callTy (x := "list") (call_listAll rfl) (by rfl) Y.tb.list boot_list ha) ok_list (ad_cons (ed_var (pv 4)) ad_nil)))))))
theorem ok_law_reached (Y : Fx w K mg) : FnC P w K mg base "_law_reached" 2 ["_law_rows", "_law_keeps", "_law_starts", "_law_name"] [] F_law_reached := by
  obtain ⟨fd, FD⟩ := Y.c.def_ 23 (d := d_law_reached) rfl
  exact FnC.of FD (Y.glo 23) (ok_law_reached_fn FD Y) fun _ _ _ _ _ _ us hl => match us, hl with | [_, _, _, _], _ => rfl
theorem sc_law_may : FnScope ["_law_rows", "_law_keeps", "_law_name", "_law_starts", "_law_at", "_law_to"] ["_law_rows", "_law_keeps", "_law_name"] (defScope s_law_may) := ⟨rfl, rfl, rfl, by decide +kernel, rfl, by decide +kernel, by decide +kernel⟩
theorem ok_law_may_fn {f : Addr} {fd : FuncData} (FD : FunD K d_law_may.name d_law_may.qual d_law_may.params d_law_may.body d_law_may.scope (He.DefD.dvs K d_law_may) (He.DefD.kws K d_law_may) f fd) (Y : Fx w K mg) : FnOk P w K mg base CX0 3 f fd ["_law_rows", "_law_keeps", "_law_name"] (spS K 3 F_law_may) := by
  refine fn_ok FD sc_law_may fun cdv A outer s H E hr => ?_
  exact (sds_cons (sd_set (ps_set (i := 3) sc_law_may.nd rfl (by first | exact .inl rfl | exact .inr rfl) (ED.pe (ed_lstM ad_nil))))
  (sds_cons (sd_for (ps_for PassesOwn.never rfl (Dn.ID.pi (id_seq (ed_callP (ok_law_reached Y) rfl hr (by decide) (by rfl) dd0 (ad_cons (ed_var (pv 0)) (ad_cons (ed_var (pv 1)) (ad_cons (ed_add (ed_lst (ad_cons ed_int ad_nil)) (ed_prim (fun ha => pe_callTy (x := "list") (call_listAll rfl) (by rfl) Y.tb.list boot_list ha) ok_list (ad_cons (ed_var (pv 1)) ad_nil))) (ad_cons (ed_var (pv 2)) ad_nil))))))) (GD.pg (gd_name (pg_name (i := 4) sc_law_may.nd rfl (by first | exact .inl rfl | exact .inr rfl)))) (SDs.ps (sds_one (sd_if (TDW.td (tw_and (td_in hr (ed_ix hr (ed_ix hr (ed_var (pv 0)) (ed_var (pv 4)) (fun _ _ => rfl)) ed_int (fun _ _ => rfl)) (ed_tup (ad_cons ed_str (ad_cons ed_str ad_nil))) rfl) (tw_and1 (td_eq hr (ed_ix hr (ed_ix hr (ed_var (pv 0)) (ed_var (pv 4)) (fun _ _ => rfl)) ed_int (fun _ _ => rfl)) (ed_var (pv 2)))))) (sds_one (sd_expr (ed_mt ok_extend (ed_var (pv 3)) (ad_cons (ed_lc (pe_lc (own := [("_law_to", 5)]) rfl sc_law_may.nd (Dn.ID.pi (id_seq (ed_callP (ok_law_exits Y) rfl hr (by decide) (by rfl) dd0 (ad_cons (ed_var (pv 0)) (ad_cons (ed_var (pv 4)) ad_nil))))) (blkOk_by (by rfl)) (fun _ _ _ _ _ => (pg_name (i := 5) sc_law_may.nd rfl (by first | exact .inl rfl | exact .inr rfl))) (fun _ _ _ _ _ => (pts_one (TD.pt (td_notin hr (ed_var (pv 5)) (ed_var (pv 1)) rfl)))) (fun _ _ _ _ _ => (ED.pe (ed_var (pv 5))))) (gw_name (by decide)) same_of) ad_nil) (fun ho ha => pe_bm PySem.F.plainAttrs_list PySem.F.slot_list_extend PySem.F.type_list_extend mt_extend ho ha)))) sds_nil)))))
  (sds_cons (sd_for (ps_for PassesOwn.never rfl (Dn.ID.pi (id_seq (ed_callP (ok_law_reached Y) rfl hr (by decide) (by rfl) dd0 (ad_cons (ed_var (pv 0)) (ad_cons (ed_var (pv 1)) (ad_cons (ed_var (pv 3)) (ad_cons ed_str ad_nil))))))) (GD.pg (gd_name (pg_name (i := 4) sc_law_may.nd rfl (by first | exact .inl rfl | exact .inr rfl)))) (SDs.ps (sds_one (sd_if (TDW.td (tw_and (td_in hr (ed_ix hr (ed_ix hr (ed_var (pv 0)) (ed_var (pv 4)) (fun _ _ => rfl)) ed_int (fun _ _ => rfl)) (ed_tup (ad_cons ed_str (ad_cons ed_str ad_nil))) rfl) (tw_and1 (td_eq hr (ed_ix hr (ed_ix hr (ed_var (pv 0)) (ed_var (pv 4)) (fun _ _ => rfl)) ed_int (fun _ _ => rfl)) (ed_var (pv 2)))))) (sds_one (sd_ret ed_bl)) sds_nil)))))
  (sds_one (sd_ret ed_bl)))))
theorem ok_law_may (Y : Fx w K mg) : FnC P w K mg base "_law_may" 3 ["_law_rows", "_law_keeps", "_law_name"] [] F_law_may := by
  obtain ⟨fd, FD⟩ := Y.c.def_ 24 (d := d_law_may) rfl
  exact FnC.of FD (Y.glo 24) (ok_law_may_fn FD Y) fun _ _ _ _ _ _ us hl => match us, hl with | [_, _, _], _ => rfl
theorem sc_law : FnScope ["_law_script", "_law_program_here", "_law_rows", "_law_code", "_law_keeps", "_law_told", "_law_at", "_law_found"] ["_law_script"] (defScope s_law) := ⟨rfl, rfl, rfl, by decide +kernel, rfl, by decide +kernel, by decide +kernel⟩
theorem ok_law_fn {f : Addr} {fd : FuncData} (FD : FunD K d_law.name d_law.qual d_law.params d_law.body d_law.scope (He.DefD.dvs K d_law) (He.DefD.kws K d_law) f fd) (Y : Fx w K mg) : FnOk P w K mg base CX0 5 f fd ["_law_script"] (spS K 1 F_law) := by
  refine fn_ok FD sc_law fun cdv A outer s H E hr => ?_
  exact (sds_cons (sd_set (ps_set (i := 1) sc_law.nd rfl (by first | exact .inl rfl | exact .inr rfl) (ED.pe (ed_callP (ok_law_program Y) rfl hr (by decide) (by rfl) dd0 (ad_cons (ed_var (pv 0)) (ad_cons ed_int ad_nil))))))
  (sds_cons (sd_set (ps_set (i := 2) sc_law.nd rfl (by first | exact .inl rfl | exact .inr rfl) (ED.pe (ed_ix hr (ed_var (pv 1)) ed_int (fun _ _ => rfl)))))
  (sds_cons (sd_set (ps_set (i := 3) sc_law.nd rfl (by first | exact .inl rfl | exact .inr rfl) (ED.pe (ed_callP (ok_law_cutting Y) rfl hr (by decide) (by rfl) dd0 (ad_cons (ed_var (pv 0)) (ad_cons (ed_var (pv 1)) (ad_cons (ed_callP (ok_law_pool Y) rfl hr (by decide) (by rfl) dd0 (ad_cons (ed_var (pv 0)) ad_nil)) ad_nil)))))))
  (sds_cons (sd_set (ps_set (i := 4) sc_law.nd rfl (by first | exact .inl rfl | exact .inr rfl) (ED.pe (ed_dnewK pe_dnewK))))
  (sds_cons (sd_for (ps_for PassesOwn.never rfl (Dn.ID.pi (id_seq (ed_ix hr (ed_var (pv 3)) ed_int (fun _ _ => rfl)))) (GD.pg (gd_t rfl (gds_c (gd_name (pg_name (i := 6) sc_law.nd rfl (by first | exact .inl rfl | exact .inr rfl))) (gds_c (gd_name (pg_name (i := 5) sc_law.nd rfl (by first | exact .inl rfl | exact .inr rfl))) gds_nil)))) (SDs.ps (sds_one (sd_sub (ps_asg (ED.pe ed_bl) (pg_sub (ED.pe (ed_var (pv 4))) (ED.pe (ed_var (pv 6))) (PSet.or set_list (set_dict (hu1 hr))))))))))
  (sds_cons (sd_for (ps_for PassesOwn.never rfl (Dn.ID.pi (id_seq (ed_mulT (ed_add (ed_ix hr (ed_var (pv 1)) ed_int (fun _ _ => rfl)) (ed_ix hr (ed_var (pv 1)) ed_int (fun _ _ => rfl))) ed_int))) (GD.pg (gd_name (pg_name (i := 5) sc_law.nd rfl (by first | exact .inl rfl | exact .inr rfl)))) (SDs.ps (sds_cons (sd_set (ps_set (i := 7) sc_law.nd rfl (by first | exact .inl rfl | exact .inr rfl) (ED.pe (ed_callS (ok_spoilt Y) rfl hr (by decide) (by rfl) dd0 (ad_cons (ed_var (pv 1)) (ad_cons (ed_var (pv 3)) (ad_cons (ed_ix hr (ed_var (pv 5)) ed_int (fun _ _ => rfl)) ad_nil)))))))
  (sds_one (sd_if (td_is (ed_var (pv 7)) ed_non) (sds_one (sd_if (TDW.td (tw_and (td_not (td_val (ed_ix hr (ed_var (pv 5)) ed_int (fun _ _ => rfl)))) (tw_and1 (td_val (ed_callP (ok_law_may Y) rfl hr (by decide) (by rfl) dd0 (ad_cons (ed_var (pv 2)) (ad_cons (ed_var (pv 4)) (ad_cons (ed_ix hr (ed_var (pv 5)) ed_int (fun _ _ => rfl)) ad_nil)))))))) (sds_one (sd_ret ed_bl)) sds_nil)) (sds_one (sd_if (TDW.td (tw_or (td_val (ed_ix hr (ed_var (pv 5)) ed_int (fun _ _ => rfl))) (tw_or1 (td_not (td_val (ed_callP (ok_law_is_piece Y) rfl hr (by decide) (by rfl) dd0 (ad_cons (ed_var (pv 2)) (ad_cons (ed_var (pv 4)) (ad_cons (ed_var (pv 7)) ad_nil))))))))) (sds_one (sd_ret ed_bl)) (sds_one (sd_if (td_not (td_val (ed_callP (ok_law_spoils Y) rfl hr (by decide) (by rfl) dd0 (ad_cons (ed_var (pv 2)) (ad_cons (ed_var (pv 7)) (ad_cons (ed_ix hr (ed_var (pv 5)) ed_int (fun _ _ => rfl)) (ad_cons (ed_inT hr (ed_var (pv 5)) (ed_ix hr (ed_var (pv 1)) ed_int (fun _ _ => rfl)) rfl) ad_nil))))))) (sds_one (sd_ret ed_bl)) (sds_one (sd_expr (ed_mt ok_append (ed_var (pv 7)) (ad_cons ed_int ad_nil) (fun ho ha => pe_bm PySem.F.plainAttrs_list PySem.F.slot_list_append PySem.F.type_list_append mt_append ho ha))))))))))))))
  (sds_one (sd_ret (ed_and (ed_eq hr (ed_var (pv 1)) (ed_callP (ok_law_program Y) rfl hr (by decide) (by rfl) dd0 (ad_cons (ed_var (pv 0)) (ad_cons ed_int ad_nil)))) (ed_one (ed_eq hr (ed_var (pv 3)) (ed_callP (ok_law_cutting Y) rfl hr (by decide) (by rfl) dd0 (ad_cons (ed_var (pv 0)) (ad_cons (ed_var (pv 1)) (ad_cons (ed_callP (ok_law_pool Y) rfl hr (by decide) (by rfl) dd0 (ad_cons (ed_var (pv 0)) ad_nil)) ad_nil)))))))))))))))
end
end Lk34

namespace Lk34
open PySem PySem.Spec PyProof.Rows L2 Dn
/-! ### what rows read and set -/
def atomsL : PRow → List Atm
  | .copy _ a => [a]
  | .store _ a => [a]
  | .op _ _ a b => [a, b]
  | .take _ _ a => [a]
  | .lay _ a b => [a, b]
  | .say a => [a]
  | .ifr a _ => [a]
  | .endr a => [a]
  | _ => []
def addS (K : List Str) (x : Str) : List Str := if x ∈ K then K else K ++ [x]
def addA (K : List Str) : Atm → List Str
  | .n _ => K
  | .x s => addS K s
def rdL (r : PRow) : List Str := (atomsL r).foldl addA []
def givesL : PRow → Option Str
  | .copy x _ => some x
  | .op x _ _ _ => some x
  | .load x _ => some x
  | .take x _ _ => some x
  | .hear x => some x
  | _ => none
def optS : Option Str → DV
  | none => .non
  | some s => .str s
theorem addS_mem {K : List Str} {x y : Str} : y ∈ addS K x ↔ y ∈ K ∨ y = x := by
  unfold addS
  by_cases q : x ∈ K
  · rw [if_pos q]
    exact ⟨.inl, fun h => by
      rcases h with h | h
      · exact h
      · rw [h]
        exact q⟩
  · rw [if_neg q, List.mem_append, List.mem_singleton]
theorem addS_nodup {K : List Str} {x : Str} (h : K.Nodup) : (addS K x).Nodup := by
  unfold addS
  by_cases q : x ∈ K
  · rw [if_pos q]
    exact h
  · rw [if_neg q]
    exact List.nodup_append.mpr ⟨h, List.pairwise_singleton _ _, fun a ha b hb e => q (by rw [← List.mem_singleton.mp hb, ← e]; exact ha)⟩
theorem foldA_mem {y : Str} : ∀ {as : List Atm} {K : List Str}, y ∈ as.foldl addA K ↔ y ∈ K ∨ Atm.x y ∈ as
  | [], K => by simp
  | .n i :: as, K => by
    rw [List.foldl_cons, foldA_mem]
    simp [addA]
  | .x s :: as, K => by
    rw [List.foldl_cons, foldA_mem]
    show y ∈ addS K s ∨ _ ↔ _
    rw [addS_mem]
    simp
    constructor
    · rintro ((h | h) | h)
      · exact .inl h
      · exact .inr (.inl h)
      · exact .inr (.inr h)
    · rintro (h | h | h)
      · exact .inl (.inl h)
      · exact .inl (.inr h)
      · exact .inr h
theorem rdL_mem {r : PRow} {y : Str} : y ∈ rdL r ↔ Atm.x y ∈ atomsL r := by
  unfold rdL
  rw [foldA_mem]
  simp
theorem foldA_nodup : ∀ {as : List Atm} {K : List Str}, K.Nodup → (as.foldl addA K).Nodup
  | [], K, h => h
  | .n i :: as, K, h => foldA_nodup (as := as) h
  | .x s :: as, K, h => foldA_nodup (as := as) (addS_nodup h)
theorem rdL_nodup (r : PRow) : (rdL r).Nodup := foldA_nodup List.nodup_nil
theorem atoms_le (r : PRow) : (atomsL r).length ≤ 2 := by cases r <;> simp [atomsL]
theorem addA_le {K : List Str} {a : Atm} : (addA K a).length ≤ K.length + 1 := by
  cases a with
  | n i => exact Nat.le_succ _
  | x s =>
    show (addS K s).length ≤ _
    unfold addS
    split
    · exact Nat.le_succ _
    · simp
theorem foldA_le : ∀ {as : List Atm} {K : List Str}, (as.foldl addA K).length ≤ K.length + as.length
  | [], K => Nat.le_refl _
  | a :: as, K => by
    have h1 := foldA_le (as := as) (K := addA K a)
    have h2 := addA_le (K := K) (a := a)
    rw [List.foldl_cons, List.length_cons]
    omega
theorem rdL_le (r : PRow) : (rdL r).length ≤ 2 := Nat.le_trans foldA_le (by simpa using atoms_le r)
theorem atoms_plain : ∀ as : List Atm, plainL (as.map Atm.d) = true := fun as => plainL_iff.mpr fun d h => by
  obtain ⟨a, _, rfl⟩ := List.mem_map.mp h
  exact Atm.plain_d
theorem inD_strs {x : Str} : ∀ {K : List Str}, inD (.str x) (K.map DV.str) = decide (x ∈ K)
  | [] => rfl
  | y :: K => by
    have ih := inD_strs (x := x) (K := K)
    rw [List.map_cons]
    unfold inD at ih ⊢
    rw [List.any_cons, ih]
    by_cases q : x = y
    · subst q
      simp [eqF]
    · have q2 : ¬ y = x := fun e => q e.symm
      simp [eqF, q, q2]
theorem in_strs {S : Sto} {K : List Str} {x : Str} {n : Nat} (h : S[n]? = some (.lst (K.map .str))) (neg : Bool) : pIn neg (.str x) (.loc n) S = some (.bl (if neg then !decide (x ∈ K) else decide (x ∈ K)), S) := by
  have e : inD (.str x) (K.map DV.str) = decide (x ∈ K) := inD_strs
  have f : (K.map DV.str).all flD = true := List.all_eq_true.mpr fun d hd => by
    obtain ⟨y, _, rfl⟩ := List.mem_map.mp hd
    rfl
  show (match asL S (.loc n) with | some ds => _ | none => _) = _
  rw [asL_loc h]
  show (if flD (.str x) = true ∧ (K.map DV.str).all flD = true then some (DV.bl (if neg then !inD (.str x) (K.map .str) else inD (.str x) (K.map .str)), S) else _) = _
  rw [if_pos ⟨rfl, f⟩, e]
/-! ### dicts of boxes -/
abbrev dkK (K : List Str) : List Key := K.map .inr
abbrev dkV (K : List Str) : List DV := K.map fun _ => .bl true
def dk (K : List Str) : Cell := .dik (dkK K) (dkV K)
theorem hasK_dk {K : List Str} {x : Str} : hasK (dkK K) (.inr x) = decide (x ∈ K) := by
  unfold hasK
  rw [List.any_map]
  induction K with
  | nil => rfl
  | cons y K ih =>
    rw [List.any_cons, ih]
    by_cases q : y = x
    · subst q
      simp
    · have q2 : ¬ x = y := fun e => q e.symm
      simp [q, q2]
theorem rp_true : ∀ {ks : List Key} {K : List Str} {k : Key}, ks.length = K.length → rpG k (.bl true) ks (dkV K) = dkV K
  | [], [], _, _ => rfl
  | a :: ks, b :: K, k, h => by
    show (if a = k then DV.bl true else .bl true) :: rpG k (.bl true) ks (dkV K) = _
    rw [rp_true (Nat.succ.inj h), ite_self]
    rfl
theorem put_dk (K : List Str) (x : Str) : putKs (dkK K) (.inr x) = dkK (addS K x) ∧ putVs (dkK K) (dkV K) (.inr x) (.bl true) = dkV (addS K x) := by
  unfold putKs putVs addS
  rw [hasK_dk]
  by_cases q : x ∈ K
  · rw [decide_eq_true q, if_pos rfl, if_pos q, if_pos rfl]
    exact ⟨rfl, rp_true (by simp)⟩
  · rw [decide_eq_false q, if_neg (by decide), if_neg q, if_neg (by decide)]
    simp
theorem set_dk {S : Sto} {n : Nat} {K : List Str} {x : Str} (h : S[n]? = some (dk K)) (hz : K.length < 100000) : setI (.loc n) (.str x) (.bl true) S = some (S.set n (dk (addS K x))) := by
  have := setI_dik (x := x) (y := .bl true) h (by rw [List.length_map]; omega)
  rw [(put_dk K x).1, (put_dk K x).2] at this
  exact this
theorem lk_dk : ∀ {K : List Str} {x : Str}, (lkD (dkK K) (dkV K) (.inr x)).isSome = decide (x ∈ K)
  | [], x => rfl
  | y :: K, x => by
    show (if (Sum.inr y : Key) = Sum.inr x then some (DV.bl true) else lkD (dkK K) (dkV K) (.inr x)).isSome = _
    by_cases q : y = x
    · subst q
      simp
    · have q2 : ¬ x = y := fun e => q e.symm
      rw [if_neg fun e => q (Sum.inr.inj e), lk_dk]
      simp [q2]
/-- a dict, or one that is being walked -/
def IsDk (c : Cell) (K : List Str) : Prop := c = dk K ∨ c = .lok (dkK K) (dkV K)
theorem in_dk {S : Sto} {n : Nat} {c : Cell} {K : List Str} (h : S[n]? = some c) (hc : IsDk c K) (x : Str) (neg : Bool) : pIn neg (.str x) (.loc n) S = some (.bl (if neg then !decide (x ∈ K) else decide (x ∈ K)), S) := by
  have h1 : asL S (.loc n) = none := by
    rcases hc with rfl | rfl
    · unfold asL
      simp only [h]
      rfl
    · unfold asL
      simp only [h]
  have h2 : getD S (.loc n) (.str x) = some (lkD (dkK K) (dkV K) (.inr x)) := by
    rcases hc with rfl | rfl
    · exact getD_dik h
    · unfold getD asK keyD
      simp only [h]
  show (match asL S (.loc n) with | some ds => _ | none => (match getD S (.loc n) (.str x) with | some o => some (DV.bl (if neg then !o.isSome else o.isSome), S) | none => none)) = _
  rw [h1]
  simp only [h2, lk_dk]
/-! ### what is known of each row -/
def NS (S0 : Sto) (H : List (List Str)) : Sto := S0 ++ (.lst ((List.range' (S0.length + 1) H.length).map .loc) :: H.map dk)
section
variable {S0 : Sto} {H : List (List Str)} {i : Nat} {K : List Str}
theorem n_off {T : Sto} {k : Nat} : (S0 ++ T)[S0.length + k]? = T[k]? := by
  rw [List.getElem?_append_right (Nat.le_add_right _ _), Nat.add_sub_cancel_left]
theorem n_set {T : Sto} {k : Nat} {x : Cell} : (S0 ++ T).set (S0.length + k) x = S0 ++ T.set k x := by
  rw [List.set_append_right _ _ (Nat.le_add_right _ _), Nat.add_sub_cancel_left]
theorem ns_list : (NS S0 H)[S0.length]? = some (.lst ((List.range' (S0.length + 1) H.length).map .loc)) := n_off (k := 0)
theorem ns_at (h : H[i]? = some K) : (NS S0 H)[S0.length + 1 + i]? = some (dk K) := by
  unfold NS
  rw [Nat.add_assoc, n_off, Nat.add_comm 1 i, List.getElem?_cons_succ, List.getElem?_map, h] <;> rfl
theorem ns_set (c : Cell) : (NS S0 H).set (S0.length + 1 + i) c = S0 ++ (.lst ((List.range' (S0.length + 1) H.length).map .loc) :: (H.map dk).set i c) := by
  unfold NS
  rw [Nat.add_assoc, n_set, Nat.add_comm 1 i, List.set_cons_succ]
theorem ns_setK : (NS S0 H).set (S0.length + 1 + i) (dk K) = NS S0 (H.set i K) := by
  rw [ns_set]
  unfold NS
  rw [List.length_set, List.map_set]
theorem ix_list {S : Sto} (h : S[S0.length]? = some (.lst ((List.range' (S0.length + 1) H.length).map .loc))) (hi : i < H.length) : pIx (.loc S0.length) (.int i) S = some (.loc (S0.length + 1 + i), S) :=
  ix_loc h (atD_nat (by rw [List.getElem?_map, List.getElem?_range' hi, Nat.one_mul] <;> rfl))
end
theorem lcL_filter {α : Type} {D : α → DV} {p : α → Bool} {g : DG} {c fe : DE} {ρ : List (Option DV)} {S : Sto} : ∀ {K : List α}, (∀ b ∈ K, ∃ ρ1, g (D b) ρ S = some (ρ1, S) ∧ c ρ1 S = some (.bl (p b), S) ∧ fe ρ1 S = some (D b, S)) → lcL g c fe ρ (K.map D) S = some ((K.filter p).map D, S)
  | [], _ => rfl
  | b :: K, h => by
    obtain ⟨ρ1, h1, h2, h3⟩ := h b List.mem_cons_self
    have ih := lcL_filter (K := K) (p := p) (D := D) (g := g) (c := c) (fe := fe) (ρ := ρ) (S := S) fun b hb => h b (List.mem_cons_of_mem _ hb)
    rw [List.map_cons, List.filter_cons]
    unfold lcL
    cases q : p b with
    | true =>
      rw [q] at h2
      simp only [h1, h2, h3, ih, if_true, List.map_cons]
    | false =>
      rw [q] at h2
      simp only [h1, h2, ih]
      rfl
theorem ne_gives {S : Sto} (b : Str) (g : Option Str) : pEq true (.str b) (optS g) S = some (.bl (decide (g ≠ some b)), S) := by
  cases g with
  | none => rfl
  | some s =>
    show some (DV.bl (!decide (b = s)), S) = _
    by_cases q : b = s
    · subst q
      simp
    · have q2 : ¬ s = b := fun e => q e.symm
      simp [q, q2]
theorem nodup_len {α : Type} [DecidableEq α] : ∀ {l m : List α}, l.Nodup → (∀ x ∈ l, x ∈ m) → l.length ≤ m.length
  | [], _, _, _ => Nat.zero_le _
  | x :: l, m, h, hs => by
    rw [List.nodup_cons] at h
    have hx : x ∈ m := hs x List.mem_cons_self
    have ih := nodup_len (l := l) (m := m.erase x) h.2 fun y hy => (List.mem_erase_of_ne fun e => h.1 (by rw [← e]; exact hy)).mpr (hs y (List.mem_cons_of_mem _ hy))
    have hl := List.length_erase_of_mem hx
    have h0 : 0 < m.length := List.length_pos_of_mem hx
    rw [List.length_cons]
    omega
theorem nways_of (i : Nat) (r : PRow) : pureOf F_ways_of [r.d, .int i] = some (ledD i r) := by
  refine pureOf_of (S' := []) ?_ (by cases r <;> simp [ledD, PRow.led])
  unfold F_ways_of b_ways_of runF
  cases r <;> simp [PRow.d, ledD, PRow.led]
theorem nways_loop {x : Option DV} : ∀ (rows : List PRow) (k : Nat), lcL (gTupD 2 (gsCons (gSet 1) (gsCons (gSet 2) gsNil))) (dC (.bl true)) (dPrim (cP (pureOf F_ways_of) []) (aCons (dVar 2) (aCons (dVar 1) aNil))) [x, none, none] (enD k (rows.map PRow.d)) [] = some (rows.mapIdx fun i r => ledD (k + i) r, [])
  | [], k => rfl
  | r :: rows, k => by
    have ih := nways_loop (x := x) rows (k + 1)
    have hg : gTupD 2 (gsCons (gSet 1) (gsCons (gSet 2) gsNil)) (.tup [.int (k : Nat), r.d]) [x, none, none] [] = some ([x, some (.int (k : Nat)), some r.d], []) := rfl
    rw [List.map_cons]
    show lcL _ _ _ _ (DV.tup [.int (k : Nat), r.d] :: enD (k + 1) (rows.map PRow.d)) [] = _
    unfold lcL
    simp only [hg, v_c]
    have h1 : dPrim (cP (pureOf F_ways_of) []) (aCons (dVar 2) (aCons (dVar 1) aNil)) [x, some (.int (k : Nat)), some r.d] [] = some (ledD k r, []) := by
      simp [cpL_plain, PRow.plain_d, nways_of]
    simp only [h1, ih]
    rw [List.mapIdx_cons]
    have e : (fun i r => ledD (k + 1 + i) r) = fun i r => ledD (k + (i + 1)) r := by
      funext i r
      rw [show k + 1 + i = k + (i + 1) by omega]
    rw [e]
    rfl
theorem nleads_plain (rows : List PRow) : plainL (leadsD rows) = true := plainL_iff.mpr fun d h => by
  unfold leadsD at h
  obtain ⟨i, hi, rfl⟩ := List.mem_mapIdx.mp h
  unfold ledD
  exact plainL_iff.mpr fun d h => by
    obtain ⟨n, _, rfl⟩ := List.mem_map.mp h
    rfl
theorem nways_eq (c s : DV) (rows : List PRow) (hn : rows.length ≤ 1000) : pureOf F_ways [.tup [c, s, .tup (rows.map PRow.d)]] = some (.lst .own (leadsD rows)) := by
  refine pureOf_of (S' := []) ?_ (by rw [plain_own]; exact nleads_plain rows)
  have e := nways_loop (x := some (.tup [c, s, .tup (rows.map PRow.d)])) rows 0
  have hi : iEnum2 (aCons (dBin pIx (dVar 0) (dC (.int 2))) aNil) [some (.tup [c, s, .tup (rows.map PRow.d)]), none, none] [] = some (enD 0 (rows.map PRow.d), []) := rfl
  have hz : (rows.mapIdx fun i r => ledD (0 + i) r).length ≤ sizeLine := size_ok (by rw [List.length_mapIdx]; omega)
  have h := dLc_of (vs := [1, 2]) hi (by rw [show (dwipe [some (DV.tup [c, s, .tup (rows.map PRow.d)]), none, none] [1, 2]) = [some (DV.tup [c, s, .tup (rows.map PRow.d)]), none, none] from rfl]; exact e) hz
  have e2 : (rows.mapIdx fun i r => ledD (0 + i) r) = leadsD rows := by
    unfold leadsD
    congr
    funext i r
    rw [Nat.zero_add]
  rw [e2] at h
  unfold F_ways b_ways runF
  show (match (dRet _ [some (DV.tup [c, s, .tup (rows.map PRow.d)]), none, none] [] : Option Out) with | some (.rt d S') => some (d, S') | some (.nx _ S') => some (.non, S') | _ => none) = _
  rw [v_ret, h]
end Lk34

namespace Lk34
open PySem PySem.Spec PyProof.Rows L2 Dn
theorem at_cell {ns : List Int} {k : Nat} : pureOf F_law_cell_at [.lst .ext (ns.map DV.int), .int k] = some (.int (ns.getD k 0)) := by
  refine pureOf_of (S' := []) ?_ rfl
  by_cases h : k < ns.length
  · have h2 : (k : Int) < ns.length := by omega
    have e : (ns.map DV.int)[k]? = some (.int (ns.getD k 0)) := by
      rw [List.getElem?_map, List.getElem?_eq_getElem h, List.getD_eq_getElem?_getD, List.getElem?_eq_getElem h] <;> rfl
    simp [F_law_cell_at, b_law_cell_at, runF, pLen, asL, h2, Dn.ix_seq (atD_nat e)]
  · have h2 : ¬ (k : Int) < ns.length := by omega
    simp [F_law_cell_at, b_law_cell_at, runF, pLen, asL, h2, h]
/-! ### big numbers -/
abbrev richB : DS := (dSeq (dSet 3 (dBin pMod (dBin pAdd (dBin pAdd (dBin pMul (dVar 3) (dVar 3)) (dBin pMul (dC (.int 69621)) (dVar 3))) (dVar 4)) (dC (.int 2147483629))))
  (dSeq (dSet 3 (dBin pMod (dBin pAdd (dBin pAdd (dBin pMul (dVar 3) (dC (.int 16807))) (dBin pMul (dC (.int 7919)) (dVar 4))) (dVar 1)) (dC (.int 2147483587))))
  (dSet 2 (dBin pAdd (dBin pMul (dVar 2) (dC (.int 2147483587))) (dVar 3)))))
theorem rich_eq (c : Int) (k : Nat) (hk : k < 100000) : ∃ v : Int, pureOf F_law_rich [.int c, .int k] = some (.int v) := by
  have hr : ∀ ρ, iRange1 (aCons (dC (.int 15)) aNil) ρ ([] : Sto) = some (rgD 0 15, []) := fun ρ => rfl
  obtain ⟨ρ', S', e, f, y, l, hy, rfl, rfl⟩ := forL_inv (g := gSet 4) (body := richB) (I := fun i ρ S => ∃ (f y : Int) (l : Option DV), (0 ≤ y ∧ y < 9000000000) ∧ ρ = [some (.int c), some (.int k), some (.int f), some (.int y), l] ∧ S = []) (ds := rgD 0 15) (k := 0)
    (ρ := [some (.int c), some (.int k), some (.int 0), some (.int (c % 2147483629 + 48271 * (k : Int) + 11)), none]) (S := []) ⟨0, _, none, by omega, rfl, rfl⟩ (fun i d ρ S hd hi => by
      obtain ⟨f, y, l, hy, rfl, rfl⟩ := hi
      obtain ⟨j, hj, rfl⟩ := mem_rgD (List.mem_of_getElem? hd)
      have m1 : ∀ {S : Sto}, pMul (.int y) (.int y) S = some (.int (y * y), S) := v_mulI (by omega)
      have m2 : ∀ {S : Sto}, pMul (.int 69621) (.int y) S = some (.int (69621 * y), S) := v_mulIl (by omega)
      generalize hz : (y * y + 69621 * y + (0 + (j : Nat))) % 2147483629 = z at *
      have hz0 : 0 ≤ z := by rw [← hz]; exact Int.emod_nonneg _ (by decide)
      have hz1 : z < 2147483629 := by rw [← hz]; exact Int.emod_lt_of_pos _ (by decide)
      have m3 : ∀ {S : Sto}, pMul (.int z) (.int 16807) S = some (.int (z * 16807), S) := v_mulI (by decide)
      have m4 : ∀ {S : Sto}, pMul (.int 7919) (.int (0 + (j : Nat))) S = some (.int (7919 * (0 + (j : Nat))), S) := v_mulIl (by decide)
      have m5 : ∀ {S : Sto}, pMul (.int f) (.int 2147483587) S = some (.int (f * 2147483587), S) := v_mulI (by decide)
      have w0 : 0 ≤ (z * 16807 + 7919 * (0 + (j : Nat) : Int) + k) % 2147483587 := Int.emod_nonneg _ (by decide)
      have w1 : (z * 16807 + 7919 * (0 + (j : Nat) : Int) + k) % 2147483587 < 2147483587 := Int.emod_lt_of_pos _ (by decide)
      refine ⟨_, _, _, _, rfl, .inl ?_, f * 2147483587 + (z * 16807 + 7919 * (0 + (j : Nat) : Int) + k) % 2147483587, (z * 16807 + 7919 * (0 + (j : Nat) : Int) + k) % 2147483587, some (.int (0 + (j : Nat))), by omega, rfl, rfl⟩
      have s1 : dSet 3 (dBin pMod (dBin pAdd (dBin pAdd (dBin pMul (dVar 3) (dVar 3)) (dBin pMul (dC (.int 69621)) (dVar 3))) (dVar 4)) (dC (.int 2147483629))) [some (.int c), some (.int k), some (.int f), some (.int y), some (.int (0 + (j : Nat)))] [] = some (.nx [some (.int c), some (.int k), some (.int f), some (.int z), some (.int (0 + (j : Nat)))] []) := by
        simp only [v_set, v_bin, Dn.v_var, v_c, List.getElem?_cons_succ, List.getElem?_cons_zero, m1, m2, v_addI, v_modI (show (0 : Int) < 2147483629 by decide), hz]
        rfl
      have s2 : dSet 3 (dBin pMod (dBin pAdd (dBin pAdd (dBin pMul (dVar 3) (dC (.int 16807))) (dBin pMul (dC (.int 7919)) (dVar 4))) (dVar 1)) (dC (.int 2147483587))) [some (.int c), some (.int k), some (.int f), some (.int z), some (.int (0 + (j : Nat)))] [] = some (.nx [some (.int c), some (.int k), some (.int f), some (.int ((z * 16807 + 7919 * (0 + (j : Nat) : Int) + k) % 2147483587)), some (.int (0 + (j : Nat)))] []) := by
        simp only [v_set, v_bin, Dn.v_var, v_c, List.getElem?_cons_succ, List.getElem?_cons_zero, m3, m4, v_addI, v_modI (show (0 : Int) < 2147483587 by decide)]
        rfl
      show dSeq _ _ [some (.int c), some (.int k), some (.int f), some (.int y), some (.int (0 + (j : Nat)))] [] = _
      rw [v_seq, s1]
      simp only
      rw [v_seq, s2]
      simp only
      simp only [v_set, v_bin, Dn.v_var, v_c, List.getElem?_cons_succ, List.getElem?_cons_zero, m5, v_addI]
      rfl)
  refine ⟨f, pureOf_of (S' := []) ?_ rfl⟩
  have m0 : ∀ {S : Sto}, pMul (.int 48271) (.int (k : Int)) S = some (.int (48271 * (k : Int)), S) := v_mulIl (by decide)
  unfold F_law_rich b_law_rich runF
  simp [v_modI, m0, hr]
  rw [show forL (gSet 4) _ (rgD 0 15) _ [] = _ from e]
  rfl
theorem big_eq (ns : List Int) (k : Nat) (hk : k < 100000) : ∃ v : Int, pureOf F_law_big [.lst .ext (ns.map DV.int), .int k] = some (.int v) := by
  have a0 : pureOf F_law_cell_at [.lst .ext (ns.map DV.int), .int 0] = some (.int (ns.getD 0 0)) := at_cell (k := 0)
  have ak : pureOf F_law_cell_at [.lst .ext (ns.map DV.int), .int k] = some (.int (ns.getD k 0)) := at_cell
  generalize ns.getD 0 0 = c0 at a0
  generalize ns.getD k 0 = ck at ak
  obtain ⟨v, hv⟩ := rich_eq ck k hk
  by_cases q : c0 % 2 = 0
  · refine ⟨ck, pureOf_of (S' := []) ?_ rfl⟩
    unfold F_law_big b_law_big runF
    simp [cpL_plain, a0, ak, v_modI, q]
  · refine ⟨v, pureOf_of (S' := []) ?_ rfl⟩
    unfold F_law_big b_law_big runF
    simp [cpL_plain, a0, ak, v_modI, q, hv]
/-! ### digits -/
def digs : Int → List Int → List Int
  | _, [] => []
  | n, s :: ss => n % s :: digs (n / s) ss
theorem digs_len : ∀ {ss : List Int} {n : Int}, (digs n ss).length = ss.length
  | [], _ => rfl
  | s :: ss, n => by
    show (digs (n / s) ss).length + 1 = _
    rw [digs_len]
    rfl
abbrev digB : DS := (dSeq (dExpr (dMt pAppend (dVar 2) (aCons (dBin pMod (dVar 0) (dVar 3)) aNil)))
  (dSet 0 (dBin pDiv (dVar 0) (dVar 3))))
theorem dig_loop {z : Option DV} : ∀ (ss : List Int) (n : Int) (acc : List Int) (x3 : Option DV), (∀ s ∈ ss, 0 < s ∧ s < 18446744073709551616) → acc.length + ss.length < 100000 →
    ∃ n' x3', forL (gSet 3) digB (ss.map .int) [some (.int n), z, some (.loc 0), x3] [.lst (acc.map .int)] = some (.nx [some (.int n'), z, some (.loc 0), x3'] [.lst ((acc ++ digs n ss).map .int)])
  | [], n, acc, x3, _, _ => ⟨n, x3, by rw [show digs n [] = [] from rfl, List.append_nil] <;> rfl⟩
  | s :: ss, n, acc, x3, h, hz => by
    rw [List.length_cons] at hz
    obtain ⟨h1, h2⟩ := h s List.mem_cons_self
    have pm : ∀ {S : Sto}, pMod (.int n) (.int s) S = some (.int (n % s), S) := v_modI h1
    have pd : ∀ {S : Sto}, pDiv (.int n) (.int s) S = some (.int (n / s), S) := v_divI h1 h2
    have ap : pAppend (.loc 0) [.int (n % s)] [.lst (acc.map DV.int)] = some (.non, [.lst (acc.map DV.int ++ [.int (n % s)])]) := app_loc rfl (by rw [List.length_map]; omega)
    have as0 : asL [Cell.lst (acc.map DV.int)] (.loc 0) = some (acc.map .int) := rfl
    obtain ⟨n', x3', ih⟩ := dig_loop (z := z) ss (n / s) (acc ++ [n % s]) (some (.int s)) (fun s hs => h s (List.mem_cons_of_mem _ hs)) (by rw [List.length_append, List.length_singleton]; omega)
    refine ⟨n', x3', ?_⟩
    rw [List.map_append, List.map_cons, List.map_nil] at ih
    rw [List.map_cons]
    unfold forL
    have hb : digB [some (.int n), z, some (.loc 0), some (.int s)] [.lst (acc.map .int)] = some (.nx [some (.int (n / s)), z, some (.loc 0), some (.int s)] [.lst (acc.map .int ++ [.int (n % s)])]) := by
      simp [pm, pd, ap, as0]
    simp only [v_gset, List.set_cons_succ, List.set_cons_zero, hb]
    rw [show digs n (s :: ss) = n % s :: digs (n / s) ss from rfl]
    rw [ih]
    simp
theorem digits_eq (n : Int) (ss : List Int) (h : ∀ s ∈ ss, 0 < s ∧ s < 18446744073709551616) (hz : ss.length < 1000) : pureOf F_law_digits [.int n, .lst .own (ss.map .int)] = some (.lst .own ((digs n ss).map .int)) := by
  obtain ⟨n', x3', e⟩ := dig_loop (z := some (.lst .own (ss.map .int))) ss n [] none h (by simp; omega)
  rw [List.nil_append] at e
  refine pureOf_loc (n := 0) (S' := [.lst ((digs n ss).map .int)]) ?_ rfl plainL_ints
  unfold F_law_digits b_law_digits runF
  show (match (dSeq _ _ [some (.int n), some (.lst .own (ss.map .int)), none, none] [] : Option Out) with | some (.rt d S') => some (d, S') | some (.nx _ S') => some (.non, S') | _ => none) = _
  rw [v_seq, show dSet 2 (dPrim pLstM aNil) [some (.int n), some (.lst .own (ss.map .int)), none, none] [] = some (.nx [some (.int n), some (.lst .own (ss.map .int)), some (.loc 0), none] [.lst []]) from rfl]
  simp only
  rw [v_seq, v_for, show iSeq (dVar 1) [some (.int n), some (.lst .own (ss.map .int)), some (.loc 0), none] [.lst []] = some (ss.map .int, [.lst []]) from rfl]
  simp only
  rw [show forL (gSet 3) _ (ss.map .int) _ [.lst []] = _ from e]
  rfl
theorem dg {n s : Int} (h : 0 < s) : 0 ≤ n % s ∧ n % s < s := ⟨Int.emod_nonneg _ (by omega), Int.emod_lt_of_pos _ h⟩
/-! ### words -/
theorem occ26 : ∀ j : _root_.Fin 26, Builtin.Str.occurrences "abcdefghijklmnopqrstuvwxyz" (one1 (97 + j.val)) 0 26 1 = [j.val] := by decide +kernel
theorem sidx {j : Nat} (h : j < 26) {S : Sto} : pSIdx "abcdefghijklmnopqrstuvwxyz" (.str (one1 (97 + j))) S = some (.int j, S) := by
  have := occ26 ⟨j, h⟩
  show (match Builtin.Str.occurrences "abcdefghijklmnopqrstuvwxyz" (one1 (97 + j)) 0 (Str.length "abcdefghijklmnopqrstuvwxyz") 1 with | i :: _ => some (DV.int (i : Nat), S) | [] => none) = _
  rw [show (Str.length "abcdefghijklmnopqrstuvwxyz") = 26 from rfl, this]
theorem txt_list (l : List Nat) : (txt l).cps.toList = l := by simp [txt]
theorem txt_inj {a b : List Nat} (h : txt a = txt b) : a = b := by
  have := congrArg (fun s : Str => s.cps.toList) h
  simpa [txt_list] using this
/-- a word with its last letter -/
def wd (p : List Nat) (j : Nat) : Str := txt (p ++ [97 + j % 26])
theorem wd_last {p : List Nat} {j : Nat} (hp : p.length < 1000) {S : Sto} : pIx (.str (wd p j)) (.int (-1)) S = some (.str (one1 (97 + j % 26)), S) := by
  have hl : (wd p j).cps.toList.length = p.length + 1 := by
    unfold wd
    rw [txt_list, List.length_append, List.length_singleton]
  refine ix_str (c := 97 + j % 26) (by show (wd p j).cps.size ≤ sizeLine; rw [← Array.length_toList, hl]; exact size_ok (by omega)) ?_
  unfold atI
  rw [ixN_neg (by decide) (by rw [hl]; omega)]
  show (wd p j).cps.toList[((-1 : Int) + ((wd p j).cps.toList.length : Nat)).toNat]? = _
  rw [hl, show ((-1 : Int) + ((p.length + 1 : Nat) : Int)).toNat = p.length by omega]
  unfold wd
  rw [txt_list, List.getElem?_append_right (Nat.le_refl _), Nat.sub_self] <;> rfl
theorem wd_cut {p : List Nat} {j : Nat} (hp : p.length < 1000) {S : Sto} : pSl (.str (wd p j)) none (some (-1)) S = some (.str (txt p), S) := by
  have hl : (wd p j).length = p.length + 1 := by
    show (wd p j).cps.size = _
    rw [← Array.length_toList]
    unfold wd
    rw [txt_list, List.length_append, List.length_singleton]
  show (if (wd p j).length ≤ sizeLine then some (DV.str (cutS (wd p j) none (some (-1))), S) else none) = _
  rw [if_pos (by rw [hl]; exact size_ok (by omega))]
  congr 3
  unfold cutS
  rw [hl, HT.sIx_none]
  have e : HT.sIx (p.length + 1) (p.length + 1) (some (-1)) = p.length := by
    show (if (-1 : Int) < 0 then ((-1 : Int) + ((p.length + 1 : Nat) : Int)).toNat else min (-1 : Int).toNat (p.length + 1)) = _
    rw [if_pos (by decide)]
    omega
  rw [e, List.drop_zero, Nat.sub_zero]
  unfold wd
  rw [txt_list, List.take_left] <;> rfl
theorem wd_inj {p : List Nat} {i j : Nat} (h : wd p i = wd p j) : i % 26 = j % 26 := by
  have h1 := txt_inj h
  have h2 := List.append_cancel_left h1
  have : 97 + i % 26 = 97 + j % 26 := List.head_eq_of_cons_eq h2
  omega
abbrev twinC : DE := dBin (pIn false) (dVar 5) (dVar 3)
abbrev twinB : DS := dSet 5 (dBin pAdd (dSl pSl (dVar 5) oNone (oSome (dUn pNeg (dC (.int 1))))) (dBin pIx (dVar 2) (dBin pMod (dBin pAdd (dM1 pSIdx (dVar 2) (dBin pIx (dVar 5) (dUn pNeg (dC (.int 1))))) (dC (.int 1))) (dC (.int 26)))))
abbrev EW (x0 x1 x4 : Option DV) (w : Str) (x6 : Option DV) : List (Option DV) := [x0, x1, some (.str "abcdefghijklmnopqrstuvwxyz"), some (.loc 0), x4, some (.str w), x6]
theorem str_app {a b : List Nat} : (txt a ++ txt b : Str) = txt (a ++ b) := by
  apply str_ext
  show (a.toArray ++ b.toArray).toList = _
  simp [txt]
theorem twin_ok {x0 x1 x4 x6 : Option DV} {p : List Nat} (hp : p.length < 1000) (j : Nat) (S : Sto) : twinB (EW x0 x1 x4 (wd p j) x6) S = some (.nx (EW x0 x1 x4 (wd p (j + 1)) x6) S) := by
  have h1 := wd_last (p := p) (j := j) hp (S := S)
  have h2 := wd_cut (p := p) (j := j) hp (S := S)
  have h3 := sidx (j := j % 26) (by omega) (S := S)
  have h4 : pMod (.int ((j % 26 : Nat) + 1)) (.int 26) S = some (.int ((j % 26 + 1) % 26 : Nat), S) := by
    rw [v_modI (by decide)]
    congr 3
  have h5 : pIx (.str "abcdefghijklmnopqrstuvwxyz") (.int ((j % 26 + 1) % 26 : Nat)) S = some (.str (one1 (97 + (j % 26 + 1) % 26)), S) := by
    have := abc_ix (S := S) (i := ((j % 26 + 1) % 26 : Nat)) (by omega) (by omega)
    rw [Int.toNat_natCast] at this
    exact this
  have e : ((txt p) ++ one1 (97 + (j % 26 + 1) % 26) : Str) = wd p (j + 1) := by
    show ((txt p) ++ txt [97 + (j % 26 + 1) % 26] : Str) = _
    rw [str_app]
    unfold wd
    congr 4
    omega
  have hz : (txt p).length + (one1 (97 + (j % 26 + 1) % 26)).length ≤ sizeLine := by
    have : (txt p).length = p.length := by
      show (txt p).cps.size = _
      rw [← Array.length_toList, txt_list]
    rw [this]
    exact size_ok (by show p.length + 1 ≤ _; omega)
  have v5 : dVar 5 (EW x0 x1 x4 (wd p j) x6) S = some (.str (wd p j), S) := rfl
  have v2 : dVar 2 (EW x0 x1 x4 (wd p j) x6) S = some (.str "abcdefghijklmnopqrstuvwxyz", S) := rfl
  have ng : dUn pNeg (dC (.int 1)) (EW x0 x1 x4 (wd p j) x6) S = some (.int (-1), S) := rfl
  have c1 : dSl pSl (dVar 5) oNone (oSome (dUn pNeg (dC (.int 1)))) (EW x0 x1 x4 (wd p j) x6) S = some (.str (txt p), S) := h2
  have c2 : dM1 pSIdx (dVar 2) (dBin pIx (dVar 5) (dUn pNeg (dC (.int 1)))) (EW x0 x1 x4 (wd p j) x6) S = some (.int (j % 26 : Nat), S) := by
    unfold dM1
    simp only [v2, v_bin, v5, ng, h1, h3]
  show dSet 5 _ _ S = _
  rw [v_set]
  simp only [v_bin, c1, v2, c2, v_c, v_addI, h4, h5, v_addS]
  rw [if_pos hz, e]
  rfl
theorem twins_loop {x0 x1 x4 x6 : Option DV} {p : List Nat} (hp : p.length < 1000) {K : List Str} (hK : K.length < 26) : ∀ (m i j : Nat), 27 ≤ m + i → (∀ k, k < i → wd p (j + k) ∈ K) → i ≤ 26 →
    ∃ i', whileL twinC twinB m (EW x0 x1 x4 (wd p (j + i)) x6) [.lst (K.map .str)] = some (.nx (EW x0 x1 x4 (wd p (j + i')) x6) [.lst (K.map .str)]) ∧ wd p (j + i') ∉ K
  | 0, i, j, hm, _, hi => by omega
  | m + 1, i, j, hm, h, hi => by
    have hc : twinC (EW x0 x1 x4 (wd p (j + i)) x6) [.lst (K.map .str)] = some (.bl (decide (wd p (j + i) ∈ K)), [.lst (K.map .str)]) := by
      have := in_strs (S := [.lst (K.map .str)]) (K := K) (x := wd p (j + i)) (n := 0) rfl false
      exact this
    by_cases q : wd p (j + i) ∈ K
    · rw [decide_eq_true q] at hc
      by_cases q2 : i = 26
      · exfalso
        have hd : ((List.range 26).map fun k => wd p (j + k)).Nodup := by
          rw [List.nodup_iff_pairwise_ne]
          refine List.pairwise_map.mpr ?_
          have hr : (List.range 26).Pairwise (· ≠ ·) := List.nodup_range
          refine List.Pairwise.imp_of_mem ?_ hr
          intro a b ha hb hne e
          have := wd_inj e
          have h1 := List.mem_range.mp ha
          have h2 := List.mem_range.mp hb
          omega
        have := nodup_len hd (m := K) fun x hx => by
          obtain ⟨k, hk, rfl⟩ := List.mem_map.mp hx
          exact h k (by have := List.mem_range.mp hk; omega)
        simp at this
        omega
      · obtain ⟨i', ih, hn⟩ := twins_loop (x0 := x0) (x1 := x1) (x4 := x4) (x6 := x6) hp hK m (i + 1) j (by omega) (fun k hk => by
          by_cases q3 : k = i
          · rw [q3]
            exact q
          · exact h k (by omega)) (by omega)
        refine ⟨i', ?_, hn⟩
        unfold whileL
        rw [hc]
        simp only
        rw [twin_ok hp]
        exact ih
    · rw [decide_eq_false q] at hc
      refine ⟨i, ?_, q⟩
      unfold whileL
      rw [hc]
/-- a word of letters -/
def IsW (s : Str) : Prop := ∃ l : List Nat, s = txt l ∧ l ≠ [] ∧ l.length ≤ 6 ∧ ∀ c ∈ l, 97 ≤ c ∧ c < 123
theorem IsW.ok {s : Str} (h : IsW s) : PyData.strOk s = true := by
  obtain ⟨l, rfl, _, _, hl⟩ := h
  unfold PyData.strOk txt
  rw [← Array.all_toList, List.all_eq_true]
  intro a ha
  have := hl a ha
  exact decide_eq_true (by omega)
theorem wd_isW {p : List Nat} {j : Nat} (hp : p.length ≤ 5) (h : ∀ c ∈ p, 97 ≤ c ∧ c < 123) : IsW (wd p j) := ⟨_, rfl, by simp, by simp; omega, fun c hc => by
  rcases List.mem_append.mp hc with hc | hc
  · exact h c hc
  · rw [List.mem_singleton.mp hc]
    omega⟩
abbrev wordB : DS := (dSeq (dSet 4 (dPrim (cP (pureOf F_law_digits) []) (aCons (dVar 0) (aCons (dPrim pLst (aCons (dC (.int 6)) (aCons (dC (.int 26)) (aCons (dC (.int 26)) (aCons (dC (.int 26)) (aCons (dC (.int 26)) (aCons (dC (.int 26)) (aCons (dC (.int 26)) aNil)))))))) aNil))))
  (dSeq (dSet 5 (dM1 pJoin (dC (.str "")) (dLc (iRange1 (aCons (dBin pAdd (dC (.int 1)) (dBin pIx (dVar 4) (dC (.int 0)))) aNil)) (gSet 6) (dC (.bl true)) (dBin pIx (dVar 2) (dBin pIx (dVar 4) (dBin pAdd (dC (.int 1)) (dVar 6)))) [6])))
  (dSeq (dSet 0 (dBin pDiv (dVar 0) (dBin pMul (dC (.int 6)) (dBin pPow (dC (.int 26)) (dC (.int 6))))))
  (dSeq (whileL twinC twinB 100000)
  (dExpr (dMt pAppend (dVar 3) (aCons (dVar 5) aNil)))))))
theorem word_ok (z : Int) {x1 x4 x5 x6 : Option DV} {K : List Str} (hK : K.length < 26) :
    ∃ z' w y4 y6, wordB [some (.int z), x1, some (.str "abcdefghijklmnopqrstuvwxyz"), some (.loc 0), x4, x5, x6] [.lst (K.map .str)] = some (.nx [some (.int z'), x1, some (.str "abcdefghijklmnopqrstuvwxyz"), some (.loc 0), y4, some (.str w), y6] [.lst ((K ++ [w]).map .str)]) ∧ w ∉ K ∧ IsW w := by
  let SS : List Int := [6, 26, 26, 26, 26, 26, 26]
  have hd := digits_eq z SS (fun s hs => by
    simp only [SS, List.mem_cons, List.not_mem_nil, or_false] at hs
    rcases hs with h | h | h | h | h | h | h <;> subst h <;> decide) (by decide)
  let D : List Int := digs z SS
  have hDl : D.length = 7 := digs_len
  obtain ⟨d0, d1, d2, d3, d4, d5, d6, hD, b0, b1, b2, b3, b4, b5, b6⟩ : ∃ d0 d1 d2 d3 d4 d5 d6 : Int, D = [d0, d1, d2, d3, d4, d5, d6] ∧ (0 ≤ d0 ∧ d0 < 6) ∧ (0 ≤ d1 ∧ d1 < 26) ∧ (0 ≤ d2 ∧ d2 < 26) ∧ (0 ≤ d3 ∧ d3 < 26) ∧ (0 ≤ d4 ∧ d4 < 26) ∧ (0 ≤ d5 ∧ d5 < 26) ∧ (0 ≤ d6 ∧ d6 < 26) :=
    ⟨_, _, _, _, _, _, _, rfl, dg (by decide), dg (by decide), dg (by decide), dg (by decide), dg (by decide), dg (by decide), dg (by decide)⟩
  have hd : pureOf F_law_digits [.int z, .lst .own [.int 6, .int 26, .int 26, .int 26, .int 26, .int 26, .int 26]] = some (.lst .own (D.map .int)) := hd
  have hDb : ∀ k, k < 6 → 0 ≤ D.getD (1 + k) 0 ∧ D.getD (1 + k) 0 < 26 := fun k hk => by
    rw [hD]
    rcases (show k = 0 ∨ k = 1 ∨ k = 2 ∨ k = 3 ∨ k = 4 ∨ k = 5 by omega) with e | e | e | e | e | e <;> subst e <;> assumption
  have h0 : D.getD 0 0 = d0 := by rw [hD] <;> rfl
  have ix : ∀ {k : Nat} {S : Sto}, k < 7 → pIx (.lst .own (D.map .int)) (.int k) S = some (.int (D.getD k 0), S) := fun {k S} hk => Dn.ix_seq (atD_nat (by rw [List.getElem?_map, List.getD_eq_getElem?_getD, List.getElem?_eq_getElem (by omega)] <;> rfl))
  clear_value D
  have i0 := fun {S : Sto} => ix (k := 0) (S := S) (by decide)
  rw [h0] at i0
  -- the word
  obtain ⟨m, hm⟩ : ∃ m : Nat, (m : Int) = d0 := ⟨d0.toNat, by omega⟩
  have hm6 : m < 6 := by omega
  let l : List Nat := (List.range (m + 1)).map fun k => 97 + (D.getD (1 + k) 0).toNat
  let S1 : Sto := [.lst (K.map .str)]
  have e1 : dLc (iRange1 (aCons (dBin pAdd (dC (.int 1)) (dBin pIx (dVar 4) (dC (.int 0)))) aNil)) (gSet 6) (dC (.bl true)) (dBin pIx (dVar 2) (dBin pIx (dVar 4) (dBin pAdd (dC (.int 1)) (dVar 6)))) [6] [some (.int z), x1, some (.str "abcdefghijklmnopqrstuvwxyz"), some (.loc 0), some (.lst .own (D.map .int)), x5, x6] S1 = some (.lst .own (l.map fun c => .str (one1 c)), S1) := by
    have hr : iRange1 (aCons (dBin pAdd (dC (.int 1)) (dBin pIx (dVar 4) (dC (.int 0)))) aNil) [some (.int z), x1, some (.str "abcdefghijklmnopqrstuvwxyz"), some (.loc 0), some (.lst .own (D.map .int)), x5, x6] S1 = some (rgD 0 (m + 1), S1) := by
      have : aCons (dBin pAdd (dC (.int 1)) (dBin pIx (dVar 4) (dC (.int 0)))) aNil [some (.int z), x1, some (.str "abcdefghijklmnopqrstuvwxyz"), some (.loc 0), some (.lst .own (D.map .int)), x5, x6] S1 = some ([.int (1 + d0)], S1) := by
        have i0' : pIx (.lst .own (D.map .int)) (.int 0) S1 = some (.int d0, S1) := i0
        simp only [v_cons, v_nil, v_bin, v_c, Dn.v_var, List.getElem?_cons_succ, List.getElem?_cons_zero, i0', v_addI]
      unfold iRange1
      simp only [this]
      rw [if_pos (by omega), show (1 + d0).toNat = m + 1 by omega]
    refine (dLc_of hr (lcL_range (h := fun k => .str (one1 (97 + (D.getD (1 + k) 0).toNat))) fun k hk => ?_) (size_ok (by rw [List.length_map, List.length_range]; omega))).trans ?_
    · have hk2 : k < 6 := by omega
      have i1 : pIx (.lst .own (D.map .int)) (.int (1 + (0 + (k : Nat)))) S1 = some (.int (D.getD (1 + k) 0), S1) := by
        have := ix (k := 1 + k) (S := S1) (by omega)
        rw [show ((1 + k : Nat) : Int) = 1 + (0 + (k : Nat)) by omega] at this
        exact this
      obtain ⟨c0, c1⟩ := hDb k hk2
      have i2 := abc_ix (S := S1) c0 c1
      refine ⟨_, rfl, rfl, ?_⟩
      show dBin pIx (dVar 2) (dBin pIx (dVar 4) (dBin pAdd (dC (.int 1)) (dVar 6))) [some (.int z), x1, some (.str "abcdefghijklmnopqrstuvwxyz"), some (.loc 0), some (.lst .own (D.map .int)), x5, some (.int (0 + (k : Nat)))] S1 = _
      simp only [v_bin, v_c, Dn.v_var, List.getElem?_cons_succ, List.getElem?_cons_zero, v_addI, i1, i2]
    · show _ = some (DV.lst .own (((List.range (m + 1)).map fun k => 97 + (D.getD (1 + k) 0).toNat).map fun c => .str (one1 c)), S1)
      rw [List.map_map]
      rfl
  have hll : l.length = m + 1 := by simp [l]
  have e2 := join_signs e1 (by rw [hll]; omega)
  -- its last letter
  let p : List Nat := (List.range m).map fun k => 97 + (D.getD (1 + k) 0).toNat
  let j : Nat := (D.getD (1 + m) 0).toNat
  have hj : j < 26 := by have := hDb m hm6; omega
  have hw : txt l = wd p j := by
    unfold wd
    rw [Nat.mod_eq_of_lt hj]
    refine congrArg txt ?_
    show (List.range (m + 1)).map _ = _
    rw [List.range_succ, List.map_append]
    rfl
  have hpl : p.length ≤ 5 := by simp [p]; omega
  have hpb : ∀ c ∈ p, 97 ≤ c ∧ c < 123 := fun c hc => by
    obtain ⟨k, hk, rfl⟩ := List.mem_map.mp hc
    have := hDb k (by have := List.mem_range.mp hk; omega)
    omega
  rw [hw] at e2
  obtain ⟨i', ew, hn⟩ := twins_loop (x0 := some (.int (z / (6 * 26 ^ 6)))) (x1 := x1) (x4 := some (.lst .own (D.map .int))) (x6 := x6) (p := p) (by omega) hK 100000 0 j (by omega) (fun k hk => by omega) (by omega)
  rw [Nat.add_zero] at ew
  refine ⟨z / (6 * 26 ^ 6), wd p (j + i'), some (.lst .own (D.map .int)), x6, ?_, hn, wd_isW hpl hpb⟩
  have pz : plainL [DV.int z, .lst .own [.int 6, .int 26, .int 26, .int 26, .int 26, .int 26, .int 26]] = true := rfl
  have s1 : dSet 4 (dPrim (cP (pureOf F_law_digits) []) (aCons (dVar 0) (aCons (dPrim pLst (aCons (dC (.int 6)) (aCons (dC (.int 26)) (aCons (dC (.int 26)) (aCons (dC (.int 26)) (aCons (dC (.int 26)) (aCons (dC (.int 26)) (aCons (dC (.int 26)) aNil)))))))) aNil))) [some (.int z), x1, some (.str "abcdefghijklmnopqrstuvwxyz"), some (.loc 0), x4, x5, x6] S1 = some (.nx [some (.int z), x1, some (.str "abcdefghijklmnopqrstuvwxyz"), some (.loc 0), some (.lst .own (D.map .int)), x5, x6] S1) := by
    have args : aCons (dVar 0) (aCons (dPrim pLst (aCons (dC (.int 6)) (aCons (dC (.int 26)) (aCons (dC (.int 26)) (aCons (dC (.int 26)) (aCons (dC (.int 26)) (aCons (dC (.int 26)) (aCons (dC (.int 26)) aNil)))))))) aNil) [some (.int z), x1, some (.str "abcdefghijklmnopqrstuvwxyz"), some (.loc 0), x4, x5, x6] S1 = some ([.int z, .lst .own [.int 6, .int 26, .int 26, .int 26, .int 26, .int 26, .int 26]], S1) := rfl
    have c1 : cP (pureOf F_law_digits) [] [DV.int z, .lst .own [.int 6, .int 26, .int 26, .int 26, .int 26, .int 26, .int 26]] S1 = some (.lst .own (D.map .int), S1) := by
      simp only [cP_eq, cpL_plain pz, hd]
    rw [v_set, v_prim]
    simp only [args, c1]
    rfl
  have s3 : dSet 0 (dBin pDiv (dVar 0) (dBin pMul (dC (.int 6)) (dBin pPow (dC (.int 26)) (dC (.int 6))))) [some (.int z), x1, some (.str "abcdefghijklmnopqrstuvwxyz"), some (.loc 0), some (.lst .own (D.map .int)), some (.str (wd p j)), x6] S1 = some (.nx (EW (some (.int (z / (6 * 26 ^ 6)))) x1 (some (.lst .own (D.map .int))) (wd p j) x6) S1) := by
    have p1 : pPow (.int 26) (.int 6) S1 = some (.int (26 ^ 6), S1) := v_powI (b := 6) (by decide) (by decide)
    have p2 : pMul (.int 6) (.int (26 ^ 6)) S1 = some (.int (6 * 26 ^ 6), S1) := v_mulIl (by decide)
    have p3 : pDiv (.int z) (.int (6 * 26 ^ 6)) S1 = some (.int (z / (6 * 26 ^ 6)), S1) := v_divI (by decide) (by decide)
    simp only [v_set, v_bin, v_c, Dn.v_var, List.getElem?_cons_zero, p1, p2, p3]
    rfl
  show dSeq _ _ _ S1 = _
  rw [v_seq, s1]
  simp only
  rw [v_seq, v_set, e2]
  simp only [List.set_cons_succ, List.set_cons_zero]
  rw [v_seq, s3]
  simp only
  rw [v_seq, show whileL twinC twinB 100000 _ S1 = _ from ew]
  simp only
  have ap : pAppend (.loc 0) [.str (wd p (j + i'))] [.lst (K.map DV.str)] = some (.non, [.lst (K.map DV.str ++ [.str (wd p (j + i'))])]) := app_loc rfl (by rw [List.length_map]; omega)
  have as0 : asL [Cell.lst (K.map DV.str)] (.loc 0) = some (K.map .str) := rfl
  simp [ap, as0]
theorem names_loop {x1 : Nat} (hx : x1 ≤ 12) : ∀ (m : Nat) (K : List Str) (z : Int) (x4 x5 x6 : Option DV), x1 < m + K.length → K.length ≤ x1 → K.Nodup → (∀ s ∈ K, IsW s) →
    ∃ (K' : List Str) (z' : Int) (y4 y5 y6 : Option DV), whileL (dBin pLt (dPrim pLen (aCons (dVar 3) aNil)) (dVar 1)) wordB m [some (.int z), some (.int x1), some (.str "abcdefghijklmnopqrstuvwxyz"), some (.loc 0), x4, x5, x6] [.lst (K.map .str)] = some (.nx [some (.int z'), some (.int x1), some (.str "abcdefghijklmnopqrstuvwxyz"), some (.loc 0), y4, y5, y6] [.lst (K'.map .str)]) ∧ K'.length = x1 ∧ K'.Nodup ∧ ∀ s ∈ K', IsW s
  | 0, K, z, x4, x5, x6, hm, hl, _, _ => by omega
  | m + 1, K, z, x4, x5, x6, hm, hl, hn, hw => by
    have hc : dBin pLt (dPrim pLen (aCons (dVar 3) aNil)) (dVar 1) [some (.int z), some (.int x1), some (.str "abcdefghijklmnopqrstuvwxyz"), some (.loc 0), x4, x5, x6] [.lst (K.map .str)] = some (.bl (decide ((K.length : Int) < x1)), [.lst (K.map .str)]) := by
      have hlen : pLen [.loc 0] [.lst (K.map DV.str)] = some (.int K.length, [.lst (K.map .str)]) := by
        show some (DV.int ((K.map DV.str).length : Nat), _) = _
        rw [List.length_map]
      simp [hlen]
    by_cases q : K.length < x1
    · rw [decide_eq_true (by omega)] at hc
      obtain ⟨z', w, y4, y6, e, hwn, hww⟩ := word_ok z (x1 := some (.int x1)) (x4 := x4) (x5 := x5) (x6 := x6) (K := K) (by omega)
      obtain ⟨K', z'', u4, u5, u6, ih, k1, k2, k3⟩ := names_loop hx m (K ++ [w]) z' y4 (some (.str w)) y6 (by rw [List.length_append, List.length_singleton]; omega) (by rw [List.length_append, List.length_singleton]; omega) (List.nodup_append.mpr ⟨hn, List.pairwise_singleton _ _, fun a ha b hb e => hwn (by rw [← List.mem_singleton.mp hb, ← e]; exact ha)⟩) (fun s hs => by
        rcases List.mem_append.mp hs with hs | hs
        · exact hw s hs
        · rw [List.mem_singleton.mp hs]
          exact hww)
      refine ⟨K', z'', u4, u5, u6, ?_, k1, k2, k3⟩
      unfold whileL
      rw [hc]
      simp only
      rw [e]
      exact ih
    · rw [decide_eq_false (by omega)] at hc
      refine ⟨K, z, x4, x5, x6, ?_, by omega, hn, hw⟩
      unfold whileL
      rw [hc]
theorem wnames_eq (z : Int) (n : Nat) (hn : n ≤ 12) : ∃ l : List Str, l.length = n ∧ l.Nodup ∧ (∀ s ∈ l, IsW s) ∧ pureOf F_law_names [.int z, .int n] = some (.lst .own (l.map .str)) := by
  obtain ⟨K, z', y4, y5, y6, e, h1, h2, h3⟩ := names_loop hn 100000 [] z none none none (by omega) (by simp) List.nodup_nil (fun _ h => by cases h)
  refine ⟨K, h1, h2, h3, pureOf_loc (n := 0) (S' := [.lst (K.map .str)]) ?_ rfl plainL_strs⟩
  unfold F_law_names b_law_names runF
  show (match (dSeq _ _ [some (.int z), some (.int n), none, none, none, none, none] [] : Option Out) with | some (.rt d S') => some (d, S') | some (.nx _ S') => some (.non, S') | _ => none) = _
  rw [v_seq, show dSet 2 (dC (.str "abcdefghijklmnopqrstuvwxyz")) [some (.int z), some (.int n), none, none, none, none, none] [] = some (.nx [some (.int z), some (.int n), some (.str "abcdefghijklmnopqrstuvwxyz"), none, none, none, none] []) from rfl]
  simp only
  rw [v_seq, show dSet 3 (dPrim pLstM aNil) [some (.int z), some (.int n), some (.str "abcdefghijklmnopqrstuvwxyz"), none, none, none, none] [] = some (.nx [some (.int z), some (.int n), some (.str "abcdefghijklmnopqrstuvwxyz"), some (.loc 0), none, none, none] [.lst []]) from rfl]
  simp only
  rw [v_seq, show whileL _ _ 100000 _ [.lst []] = _ from e]
  rfl
end Lk34

namespace Lk34
open PySem PySem.Spec PyProof.Rows L2 Dn
def tD (c : Str × Int × Bool) : DV := .tup [.str c.1, .int c.2.1, .bl c.2.2]
theorem tD_plain {cs : List (Str × Int × Bool)} : plainL (cs.map tD) = true := plainL_iff.mpr fun d h => by
  obtain ⟨c, _, rfl⟩ := List.mem_map.mp h
  rfl
/-- a world of names, cells, shelves -/
structure Wrl (bl : List Str) (cells shelves : List (Str × Int × Bool)) : Prop where
  b0 : 0 < bl.length
  bm : bl.length ≤ 12
  bn : bl.Nodup
  bw : ∀ s ∈ bl, IsW s
  c8 : cells.length ≤ 8
  s4 : shelves.length ≤ 4
  nd : (cells.map (·.1) ++ shelves.map (·.1)).Nodup
  cw : ∀ c ∈ cells, IsW c.1 ∧ In40 c.2.1
  sw : ∀ c ∈ shelves, IsW c.1 ∧ 1 ≤ c.2.1 ∧ c.2.1 ≤ 8
abbrev wD (bl : List Str) (cells shelves : List (Str × Int × Bool)) (rest : Int) : DV := .tup [.lst .own (bl.map .str), .tup (cells.map tD), .tup (shelves.map tD), .int rest]
theorem wD_plain {bl : List Str} {cells shelves : List (Str × Int × Bool)} {rest : Int} : plain (wD bl cells shelves rest) = true := by
  have p : plainL (bl.map DV.str) = true := plainL_strs
  have pc := tD_plain (cs := cells)
  have ps := tD_plain (cs := shelves)
  simp [p, pc, ps]
theorem pw40 {S : Sto} : pPow (.int 2) (.int 40) S = some (.int (2 ^ 40), S) := v_powI (b := 40) (by decide) (by decide)
theorem pw41 {S : Sto} : pPow (.int 2) (.int 41) S = some (.int (2 ^ 41), S) := v_powI (b := 41) (by decide) (by decide)
abbrev cB : DS := (dSeq (dExpr (dMt pAppend (dVar 3) (aCons (dPrim pTup (aCons (dBin pIx (dVar 2) (dVar 4)) (aCons (dBin pMod (dVar 1) (dBin pPow (dC (.int 2)) (dC (.int 40)))) (aCons (dBin (pEq false) (dBin pMod (dBin pDiv (dVar 1) (dBin pPow (dC (.int 2)) (dC (.int 40)))) (dC (.int 2))) (dC (.int 1))) aNil)))) aNil)))
  (dSet 1 (dBin pDiv (dVar 1) (dBin pPow (dC (.int 2)) (dC (.int 41))))))
abbrev sB : DS := (dSeq (dExpr (dMt pAppend (dVar 5) (aCons (dPrim pTup (aCons (dBin pIx (dVar 2) (dBin pAdd (dC (.int 8)) (dVar 4))) (aCons (dBin pAdd (dC (.int 1)) (dBin pMod (dVar 1) (dC (.int 8)))) (aCons (dBin (pEq false) (dBin pMod (dBin pDiv (dVar 1) (dC (.int 8))) (dC (.int 2))) (dC (.int 1))) aNil)))) aNil)))
  (dSet 1 (dBin pDiv (dVar 1) (dC (.int 16)))))
section
variable {x0 x3 x4 x5 x6 x7 x8 : Option DV} {th : List Str}
theorem cB_ok {n : Int} {k : Nat} (hk : k < th.length) {cs : List (Str × Int × Bool)} (hz : cs.length < 1000) :
    cB [x0, some (.int n), some (.lst .own (th.map .str)), some (.loc 0), some (.int k), x5, x6, x7, x8] [.lst (cs.map tD)] = some (.nx [x0, some (.int (n / 2 ^ 41)), some (.lst .own (th.map .str)), some (.loc 0), some (.int k), x5, x6, x7, x8] [.lst ((cs ++ [(th[k], n % 2 ^ 40, decide (n / 2 ^ 40 % 2 = 1))]).map tD)]) := by
  have hx : ∀ {S : Sto}, pIx (.lst .own (th.map .str)) (.int k) S = some (.str th[k], S) := fun {S} => Dn.ix_seq (atD_nat (by rw [List.getElem?_map, List.getElem?_eq_getElem hk] <;> rfl))
  have p1 : ∀ {S : Sto}, pMod (.int n) (.int (2 ^ 40)) S = some (.int (n % 2 ^ 40), S) := v_modI (by decide)
  have p2 : ∀ {S : Sto}, pDiv (.int n) (.int (2 ^ 40)) S = some (.int (n / 2 ^ 40), S) := v_divI (by decide) (by decide)
  have p3 : ∀ {S : Sto}, pDiv (.int n) (.int (2 ^ 41)) S = some (.int (n / 2 ^ 41), S) := v_divI (by decide) (by decide)
  have p4 : ∀ {S : Sto}, pMod (.int (n / 2 ^ 40)) (.int 2) S = some (.int (n / 2 ^ 40 % 2), S) := v_modI (by decide)
  have ap := app_loc (S := [.lst (cs.map tD)]) (n := 0) (y := tD (th[k], n % 2 ^ 40, decide (n / 2 ^ 40 % 2 = 1))) rfl (by rw [List.length_map]; omega)
  have as0 : asL [Cell.lst (cs.map tD)] (.loc 0) = some (cs.map tD) := rfl
  have s1 : dExpr (dMt pAppend (dVar 3) (aCons (dPrim pTup (aCons (dBin pIx (dVar 2) (dVar 4)) (aCons (dBin pMod (dVar 1) (dBin pPow (dC (.int 2)) (dC (.int 40)))) (aCons (dBin (pEq false) (dBin pMod (dBin pDiv (dVar 1) (dBin pPow (dC (.int 2)) (dC (.int 40)))) (dC (.int 2))) (dC (.int 1))) aNil)))) aNil)) [x0, some (.int n), some (.lst .own (th.map .str)), some (.loc 0), some (.int k), x5, x6, x7, x8] [.lst (cs.map tD)] = some (.nx [x0, some (.int n), some (.lst .own (th.map .str)), some (.loc 0), some (.int k), x5, x6, x7, x8] [.lst ((cs ++ [(th[k], n % 2 ^ 40, decide (n / 2 ^ 40 % 2 = 1))]).map tD)]) := by
    have args : aCons (dPrim pTup (aCons (dBin pIx (dVar 2) (dVar 4)) (aCons (dBin pMod (dVar 1) (dBin pPow (dC (.int 2)) (dC (.int 40)))) (aCons (dBin (pEq false) (dBin pMod (dBin pDiv (dVar 1) (dBin pPow (dC (.int 2)) (dC (.int 40)))) (dC (.int 2))) (dC (.int 1))) aNil)))) aNil [x0, some (.int n), some (.lst .own (th.map .str)), some (.loc 0), some (.int k), x5, x6, x7, x8] [.lst (cs.map tD)] = some ([tD (th[k], n % 2 ^ 40, decide (n / 2 ^ 40 % 2 = 1))], [.lst (cs.map tD)]) := by
      simp only [v_cons, v_nil, v_prim, v_bin, v_c, Dn.v_var, List.getElem?_cons_succ, List.getElem?_cons_zero, hx, pw40, p1, p2, p4, v_eqI]
      rfl
    rw [v_expr, v_mt]
    have v3 : dVar 3 [x0, some (.int n), some (.lst .own (th.map .str)), some (.loc 0), some (.int k), x5, x6, x7, x8] [.lst (cs.map tD)] = some (.loc 0, [.lst (cs.map tD)]) := rfl
    simp only [v3, as0, args, ap]
    rw [List.map_append]
    rfl
  show dSeq _ _ _ _ = _
  rw [v_seq, s1]
  simp only [v_set, v_bin, v_c, Dn.v_var, List.getElem?_cons_succ, List.getElem?_cons_zero, pw41, p3]
  rfl
theorem sB_ok {n : Int} {k : Nat} (hk : 8 + k < th.length) {c0 : Cell} {cs : List (Str × Int × Bool)} (hz : cs.length < 1000) :
    sB [x0, some (.int n), some (.lst .own (th.map .str)), x3, some (.int k), some (.loc 1), x6, x7, x8] [c0, .lst (cs.map tD)] = some (.nx [x0, some (.int (n / 16)), some (.lst .own (th.map .str)), x3, some (.int k), some (.loc 1), x6, x7, x8] [c0, .lst ((cs ++ [(th[8 + k], 1 + n % 8, decide (n / 8 % 2 = 1))]).map tD)]) := by
  have hx : ∀ {S : Sto}, pIx (.lst .own (th.map .str)) (.int (8 + (k : Int))) S = some (.str th[8 + k], S) := fun {S} => Dn.ix_seq (by
    have := atD_nat (ds := th.map DV.str) (k := 8 + k) (d := .str th[8 + k]) (by rw [List.getElem?_map, List.getElem?_eq_getElem hk] <;> rfl)
    rw [show ((8 + k : Nat) : Int) = 8 + (k : Int) by omega] at this
    exact this)
  have p1 : ∀ {S : Sto}, pMod (.int n) (.int 8) S = some (.int (n % 8), S) := v_modI (by decide)
  have p2 : ∀ {S : Sto}, pDiv (.int n) (.int 8) S = some (.int (n / 8), S) := v_divI (by decide) (by decide)
  have p3 : ∀ {S : Sto}, pDiv (.int n) (.int 16) S = some (.int (n / 16), S) := v_divI (by decide) (by decide)
  have p4 : ∀ {S : Sto}, pMod (.int (n / 8)) (.int 2) S = some (.int (n / 8 % 2), S) := v_modI (by decide)
  have ap := app_loc (S := [c0, .lst (cs.map tD)]) (n := 1) (y := tD (th[8 + k], 1 + n % 8, decide (n / 8 % 2 = 1))) rfl (by rw [List.length_map]; omega)
  have as0 : asL [c0, Cell.lst (cs.map tD)] (.loc 1) = some (cs.map tD) := rfl
  have s1 : dExpr (dMt pAppend (dVar 5) (aCons (dPrim pTup (aCons (dBin pIx (dVar 2) (dBin pAdd (dC (.int 8)) (dVar 4))) (aCons (dBin pAdd (dC (.int 1)) (dBin pMod (dVar 1) (dC (.int 8)))) (aCons (dBin (pEq false) (dBin pMod (dBin pDiv (dVar 1) (dC (.int 8))) (dC (.int 2))) (dC (.int 1))) aNil)))) aNil)) [x0, some (.int n), some (.lst .own (th.map .str)), x3, some (.int k), some (.loc 1), x6, x7, x8] [c0, .lst (cs.map tD)] = some (.nx [x0, some (.int n), some (.lst .own (th.map .str)), x3, some (.int k), some (.loc 1), x6, x7, x8] [c0, .lst ((cs ++ [(th[8 + k], 1 + n % 8, decide (n / 8 % 2 = 1))]).map tD)]) := by
    have args : aCons (dPrim pTup (aCons (dBin pIx (dVar 2) (dBin pAdd (dC (.int 8)) (dVar 4))) (aCons (dBin pAdd (dC (.int 1)) (dBin pMod (dVar 1) (dC (.int 8)))) (aCons (dBin (pEq false) (dBin pMod (dBin pDiv (dVar 1) (dC (.int 8))) (dC (.int 2))) (dC (.int 1))) aNil)))) aNil [x0, some (.int n), some (.lst .own (th.map .str)), x3, some (.int k), some (.loc 1), x6, x7, x8] [c0, .lst (cs.map tD)] = some ([tD (th[8 + k], 1 + n % 8, decide (n / 8 % 2 = 1))], [c0, .lst (cs.map tD)]) := by
      simp only [v_cons, v_nil, v_prim, v_bin, v_c, Dn.v_var, List.getElem?_cons_succ, List.getElem?_cons_zero, hx, p1, p2, p4, v_eqI, v_addI]
      rfl
    rw [v_expr, v_mt]
    have v3 : dVar 5 [x0, some (.int n), some (.lst .own (th.map .str)), x3, some (.int k), some (.loc 1), x6, x7, x8] [c0, .lst (cs.map tD)] = some (.loc 1, [c0, .lst (cs.map tD)]) := rfl
    simp only [v3, as0, args, ap]
    rw [List.map_append]
    rfl
  show dSeq _ _ _ _ = _
  rw [v_seq, s1]
  simp only [v_set, v_bin, v_c, Dn.v_var, List.getElem?_cons_succ, List.getElem?_cons_zero, p3]
  rfl
end
theorem world_ok (ns : List Int) : ∃ bl cells shelves rest, Wrl bl cells shelves ∧ pureOf F_law_world [.lst .ext (ns.map DV.int)] = some (wD bl cells shelves rest) := by
  let Sc : DV := .lst .ext (ns.map DV.int)
  have a0 : pureOf F_law_cell_at [Sc, .int 0] = some (.int (ns.getD 0 0)) := at_cell (k := 0)
  generalize ns.getD 0 0 = c0 at a0
  obtain ⟨z3, b3⟩ := big_eq ns 3 (by decide)
  obtain ⟨z1, b1⟩ := big_eq ns 1 (by decide)
  obtain ⟨z2, b2⟩ := big_eq ns 2 (by decide)
  have pS : ∀ k : Int, plainL [Sc, .int k] = true := fun k => by simp [Sc]
  have b3 : pureOf F_law_big [Sc, .int 3] = some (.int z3) := b3
  have b1 : pureOf F_law_big [Sc, .int 1] = some (.int z1) := b1
  have b2 : pureOf F_law_big [Sc, .int 2] = some (.int z2) := b2
  have hdig := digits_eq z3 [9, 5, 12] (fun s hs => by
    simp only [List.mem_cons, List.not_mem_nil, or_false] at hs
    rcases hs with h | h | h <;> subst h <;> decide) (by decide)
  obtain ⟨d0, d1, d2, hD, e0, e1, e2⟩ : ∃ d0 d1 d2 : Int, digs z3 [9, 5, 12] = [d0, d1, d2] ∧ (0 ≤ d0 ∧ d0 < 9) ∧ (0 ≤ d1 ∧ d1 < 5) ∧ (0 ≤ d2 ∧ d2 < 12) := ⟨_, _, _, rfl, dg (by decide), dg (by decide), dg (by decide)⟩
  rw [hD] at hdig
  have hdig : pureOf F_law_digits [.int z3, .lst .own [.int 9, .int 5, .int 12]] = some (.lst .own [.int d0, .int d1, .int d2]) := hdig
  -- which word is for the things
  obtain ⟨w, zw, hpick, bw⟩ : ∃ (w zw : Int), (∀ {S : Sto}, pIx (.lst .own [.int 1, .int 1, .int 2]) (.int (c0 / 2 % 3)) S = some (.int w, S)) ∧ pureOf F_law_big [Sc, .int w] = some (.int zw) := by
    rcases (show c0 / 2 % 3 = 0 ∨ c0 / 2 % 3 = 1 ∨ c0 / 2 % 3 = 2 by omega) with q | q | q
    · exact ⟨1, z1, fun {S} => by rw [q] <;> rfl, b1⟩
    · exact ⟨1, z1, fun {S} => by rw [q] <;> rfl, b1⟩
    · exact ⟨2, z2, fun {S} => by rw [q] <;> rfl, b2⟩
  obtain ⟨th, tl, tn, tw, hth⟩ := wnames_eq zw 12 (by decide)
  have hth : pureOf F_law_names [.int zw, .int 12] = some (.lst .own (th.map .str)) := hth
  obtain ⟨nb, hnb⟩ : ∃ n : Nat, (n : Int) = 1 + d2 := ⟨(1 + d2).toNat, by omega⟩
  obtain ⟨bl, bll, bln, blw, hbl⟩ := wnames_eq z2 nb (by omega)
  rw [hnb] at hbl
  obtain ⟨m0, hm0⟩ : ∃ n : Nat, (n : Int) = d0 := ⟨d0.toNat, by omega⟩
  obtain ⟨m1, hm1⟩ : ∃ n : Nat, (n : Int) = d1 := ⟨d1.toNat, by omega⟩
  let E : Int → Option DV → Option DV → Option DV → List (Option DV) := fun n x3 x4 x5 => [some Sc, some (.int n), some (.lst .own (th.map .str)), x3, x4, x5, some (.int d0), some (.int d1), some (.int d2)]
  obtain ⟨ρ1, S1, el1, n1, x4, cs, k1, k2, k3, rfl, rfl⟩ := forL_inv (g := gSet 4) (body := cB) (I := fun i ρ S => ∃ (n : Int) (x4 : Option DV) (cs : List (Str × Int × Bool)), cs.length = i ∧ cs.map (·.1) = th.take i ∧ (∀ c ∈ cs, In40 c.2.1) ∧ ρ = E n (some (.loc 0)) x4 none ∧ S = [.lst (cs.map tD)]) (ds := rgD 0 m0) (k := 0) (ρ := E (z3 / 540) (some (.loc 0)) none none) (S := [.lst []]) ⟨_, none, [], rfl, by simp, fun _ h => (by cases h), rfl, rfl⟩ (fun i d ρ S hd hi => by
    obtain ⟨n, x4, cs, h1, h2, h3, rfl, rfl⟩ := hi
    rw [Nat.zero_add] at h1 h2
    have hlt := (List.getElem?_eq_some_iff.mp hd).1
    rw [len_rgD] at hlt
    have hdv : d = .int (i : Nat) := by
      unfold rgD at hd
      rw [List.getElem?_map, List.getElem?_range hlt] at hd
      simpa using hd.symm
    subst hdv
    have hk : i < th.length := by omega
    have hb := cB_ok (x0 := some Sc) (x5 := none) (x6 := some (.int d0)) (x7 := some (.int d1)) (x8 := some (.int d2)) (n := n) hk (cs := cs) (by omega)
    refine ⟨_, _, _, _, rfl, .inl hb, _, some (.int (i : Nat)), cs ++ [(th[i], n % 2 ^ 40, decide (n / 2 ^ 40 % 2 = 1))], by rw [List.length_append, List.length_singleton, h1, Nat.zero_add], ?_, fun c hc => ?_, rfl, rfl⟩
    · rw [List.map_append, h2, Nat.zero_add, List.take_succ_eq_append_getElem hk]
      rfl
    · rcases List.mem_append.mp hc with hc | hc
      · exact h3 c hc
      · rw [List.mem_singleton.mp hc]
        exact ⟨Int.emod_nonneg _ (by decide), Int.emod_lt_of_pos _ (by decide)⟩)
  rw [Nat.zero_add, len_rgD] at k1 k2
  obtain ⟨ρ2, S2, el2, n2, y4, ss, j1, j2, j3, rfl, rfl⟩ := forL_inv (g := gSet 4) (body := sB) (I := fun i ρ S => ∃ (n : Int) (x4 : Option DV) (ss : List (Str × Int × Bool)), ss.length = i ∧ ss.map (·.1) = (th.drop 8).take i ∧ (∀ c ∈ ss, 1 ≤ c.2.1 ∧ c.2.1 ≤ 8) ∧ ρ = E n (some (.loc 0)) x4 (some (.loc 1)) ∧ S = [.lst (cs.map tD), .lst (ss.map tD)]) (ds := rgD 0 m1) (k := 0) (ρ := E n1 (some (.loc 0)) x4 (some (.loc 1))) (S := [.lst (cs.map tD), .lst []]) ⟨_, x4, [], rfl, by simp, fun _ h => (by cases h), rfl, rfl⟩ (fun i d ρ S hd hi => by
    obtain ⟨n, x4, ss, h1, h2, h3, rfl, rfl⟩ := hi
    rw [Nat.zero_add] at h1 h2
    have hlt := (List.getElem?_eq_some_iff.mp hd).1
    rw [len_rgD] at hlt
    have hdv : d = .int (i : Nat) := by
      unfold rgD at hd
      rw [List.getElem?_map, List.getElem?_range hlt] at hd
      simpa using hd.symm
    subst hdv
    have hk : 8 + i < th.length := by omega
    have hb := sB_ok (x0 := some Sc) (x3 := some (.loc 0)) (x6 := some (.int d0)) (x7 := some (.int d1)) (x8 := some (.int d2)) (n := n) hk (c0 := .lst (cs.map tD)) (cs := ss) (by omega)
    refine ⟨_, _, _, _, rfl, .inl hb, _, some (.int (i : Nat)), ss ++ [(th[8 + i], 1 + n % 8, decide (n / 8 % 2 = 1))], by rw [List.length_append, List.length_singleton, h1, Nat.zero_add], ?_, fun c hc => ?_, rfl, rfl⟩
    · rw [List.map_append, h2, Nat.zero_add, List.take_succ_eq_append_getElem (show i < (th.drop 8).length by rw [List.length_drop]; omega), List.getElem_drop]
      rfl
    · rcases List.mem_append.mp hc with hc | hc
      · exact h3 c hc
      · rw [List.mem_singleton.mp hc]
        show 1 ≤ 1 + n % 8 ∧ 1 + n % 8 ≤ 8
        omega)
  rw [Nat.zero_add, len_rgD] at j1 j2
  have hthsplit : th = th.take 8 ++ th.drop 8 := (List.take_append_drop 8 th).symm
  have W : Wrl bl cs ss := by
    refine ⟨by omega, by omega, bln, blw, by omega, by omega, ?_, fun c hc => ⟨tw _ ?_, k3 c hc⟩, fun c hc => ⟨tw _ ?_, j3 c hc⟩⟩
    · rw [k2, j2]
      have hs : ((th.take m0) ++ (th.drop 8).take m1).Sublist th := by
        conv => rhs; rw [hthsplit]
        exact List.Sublist.append (by rw [show th.take m0 = (th.take 8).take m0 by rw [List.take_take, Nat.min_eq_left (by omega)]]; exact List.take_sublist _ _) (List.take_sublist _ _)
      exact List.Nodup.sublist hs tn
    · have : c.1 ∈ cs.map (·.1) := List.mem_map_of_mem hc
      rw [k2] at this
      exact List.mem_of_mem_take this
    · have : c.1 ∈ ss.map (·.1) := List.mem_map_of_mem hc
      rw [j2] at this
      exact List.mem_of_mem_drop (List.mem_of_mem_take this)
  refine ⟨bl, cs, ss, n2, W, pureOf_of (S' := [.lst (cs.map tD), .lst (ss.map tD)]) ?_ wD_plain⟩
  have cb : ∀ (k z : Int) (S : Sto), pureOf F_law_big [Sc, .int k] = some (.int z) → cP (pureOf F_law_big) [] [Sc, .int k] S = some (.int z, S) := fun k z S h => by
    simp only [cP_eq, cpL_plain (pS k), h]
  have c1 : ∀ S : Sto, cP (pureOf F_law_cell_at) [] [Sc, .int 0] S = some (.int c0, S) := fun S => by
    simp only [cP_eq, cpL_plain (pS 0), a0]
  have c2 : ∀ S : Sto, cP (pureOf F_law_digits) [] [.int z3, .lst .own [.int 9, .int 5, .int 12]] S = some (.lst .own [.int d0, .int d1, .int d2], S) := fun S => by
    simp only [cP_eq, cpL_plain (show plainL [DV.int z3, .lst .own [.int 9, .int 5, .int 12]] = true from rfl), hdig]
  have c3 : ∀ S : Sto, cP (pureOf F_law_names) [] [.int zw, .int 12] S = some (.lst .own (th.map .str), S) := fun S => by
    simp only [cP_eq, cpL_plain (show plainL [DV.int zw, .int 12] = true from rfl), hth]
  have c4 : ∀ S : Sto, cP (pureOf F_law_names) [] [.int z2, .int (1 + d2)] S = some (.lst .own (bl.map .str), S) := fun S => by
    simp only [cP_eq, cpL_plain (show plainL [DV.int z2, .int (1 + d2)] = true from rfl), hbl]
  have q1 : ∀ {S : Sto}, pDiv (.int z3) (.int 540) S = some (.int (z3 / 540), S) := v_divI (by decide) (by decide)
  have q2 : ∀ {S : Sto}, pDiv (.int c0) (.int 2) S = some (.int (c0 / 2), S) := v_divI (by decide) (by decide)
  have q3 : ∀ {S : Sto}, pMod (.int (c0 / 2)) (.int 3) S = some (.int (c0 / 2 % 3), S) := v_modI (by decide)
  have s1 : dSet 1 (dPrim (cP (pureOf F_law_big) []) (aCons (dVar 0) (aCons (dC (.int 3)) aNil))) [some Sc, none, none, none, none, none, none, none, none] [] = some (.nx [some Sc, some (.int z3), none, none, none, none, none, none, none] []) := by
    have args : aCons (dVar 0) (aCons (dC (.int 3)) aNil) [some Sc, none, none, none, none, none, none, none, none] [] = some ([Sc, .int 3], []) := rfl
    rw [v_set, v_prim]
    simp only [args, cb _ _ _ b3]
    rfl
  have s2 : dAsg (dPrim (cP (pureOf F_law_digits) []) (aCons (dVar 1) (aCons (dPrim pLst (aCons (dC (.int 9)) (aCons (dC (.int 5)) (aCons (dC (.int 12)) aNil)))) aNil))) (gLstD 3 (gsCons (gSet 6) (gsCons (gSet 7) (gsCons (gSet 8) gsNil)))) [some Sc, some (.int z3), none, none, none, none, none, none, none] [] = some (.nx [some Sc, some (.int z3), none, none, none, none, some (.int d0), some (.int d1), some (.int d2)] []) := by
    have args : aCons (dVar 1) (aCons (dPrim pLst (aCons (dC (.int 9)) (aCons (dC (.int 5)) (aCons (dC (.int 12)) aNil)))) aNil) [some Sc, some (.int z3), none, none, none, none, none, none, none] [] = some ([.int z3, .lst .own [.int 9, .int 5, .int 12]], []) := rfl
    unfold dAsg
    rw [v_prim]
    simp only [args, c2]
    rfl
  have s3 : dSet 1 (dBin pDiv (dVar 1) (dC (.int 540))) [some Sc, some (.int z3), none, none, none, none, some (.int d0), some (.int d1), some (.int d2)] [] = some (.nx [some Sc, some (.int (z3 / 540)), none, none, none, none, some (.int d0), some (.int d1), some (.int d2)] []) := by
    simp only [v_set, v_bin, Dn.v_var, v_c, List.getElem?_cons_succ, List.getElem?_cons_zero, q1]
    rfl
  have s4 : dSet 2 (dPrim (cP (pureOf F_law_names) []) (aCons (dPrim (cP (pureOf F_law_big) []) (aCons (dVar 0) (aCons (dBin pIx (dPrim pLst (aCons (dC (.int 1)) (aCons (dC (.int 1)) (aCons (dC (.int 2)) aNil)))) (dBin pMod (dBin pDiv (dPrim (cP (pureOf F_law_cell_at) []) (aCons (dVar 0) (aCons (dC (.int 0)) aNil))) (dC (.int 2))) (dC (.int 3)))) aNil))) (aCons (dC (.int 12)) aNil))) [some Sc, some (.int (z3 / 540)), none, none, none, none, some (.int d0), some (.int d1), some (.int d2)] [] = some (.nx [some Sc, some (.int (z3 / 540)), some (.lst .own (th.map .str)), none, none, none, some (.int d0), some (.int d1), some (.int d2)] []) := by
    have pl : dPrim pLst (aCons (dC (.int 1)) (aCons (dC (.int 1)) (aCons (dC (.int 2)) aNil))) [some Sc, some (.int (z3 / 540)), none, none, none, none, some (.int d0), some (.int d1), some (.int d2)] ([] : Sto) = some (.lst .own [.int 1, .int 1, .int 2], []) := rfl
    have a1 : dPrim (cP (pureOf F_law_cell_at) []) (aCons (dVar 0) (aCons (dC (.int 0)) aNil)) [some Sc, some (.int (z3 / 540)), none, none, none, none, some (.int d0), some (.int d1), some (.int d2)] ([] : Sto) = some (.int c0, []) := by
      have args : aCons (dVar 0) (aCons (dC (.int 0)) aNil) [some Sc, some (.int (z3 / 540)), none, none, none, none, some (.int d0), some (.int d1), some (.int d2)] ([] : Sto) = some ([Sc, .int 0], []) := rfl
      rw [v_prim]
      simp only [args, c1]
    have a2 : dPrim (cP (pureOf F_law_big) []) (aCons (dVar 0) (aCons (dBin pIx (dPrim pLst (aCons (dC (.int 1)) (aCons (dC (.int 1)) (aCons (dC (.int 2)) aNil)))) (dBin pMod (dBin pDiv (dPrim (cP (pureOf F_law_cell_at) []) (aCons (dVar 0) (aCons (dC (.int 0)) aNil))) (dC (.int 2))) (dC (.int 3)))) aNil)) [some Sc, some (.int (z3 / 540)), none, none, none, none, some (.int d0), some (.int d1), some (.int d2)] ([] : Sto) = some (.int zw, []) := by
      have args : aCons (dVar 0) (aCons (dBin pIx (dPrim pLst (aCons (dC (.int 1)) (aCons (dC (.int 1)) (aCons (dC (.int 2)) aNil)))) (dBin pMod (dBin pDiv (dPrim (cP (pureOf F_law_cell_at) []) (aCons (dVar 0) (aCons (dC (.int 0)) aNil))) (dC (.int 2))) (dC (.int 3)))) aNil) [some Sc, some (.int (z3 / 540)), none, none, none, none, some (.int d0), some (.int d1), some (.int d2)] ([] : Sto) = some ([Sc, .int w], []) := by
        rw [v_cons, show dVar 0 [some Sc, some (.int (z3 / 540)), none, none, none, none, some (.int d0), some (.int d1), some (.int d2)] ([] : Sto) = some (Sc, []) from rfl]
        simp only [v_cons, v_nil, v_bin, pl, a1, v_c, q2, q3, hpick]
      rw [v_prim]
      simp only [args, cb _ _ _ bw]
    rw [v_set, v_prim, v_cons, a2]
    simp only [v_cons, v_nil, v_c, c3]
    rfl
  have r1 : iRange1 (aCons (dVar 6) aNil) (E (z3 / 540) (some (.loc 0)) none none) [.lst []] = some (rgD 0 m0, [.lst []]) := by
    unfold iRange1
    rw [show aCons (dVar 6) aNil (E (z3 / 540) (some (.loc 0)) none none) [.lst []] = some ([.int d0], [.lst []]) from rfl]
    simp only
    rw [if_pos (by omega), show d0.toNat = m0 by omega]
  have r2 : iRange1 (aCons (dVar 7) aNil) (E n1 (some (.loc 0)) x4 (some (.loc 1))) [.lst (cs.map tD), .lst []] = some (rgD 0 m1, [.lst (cs.map tD), .lst []]) := by
    unfold iRange1
    rw [show aCons (dVar 7) aNil (E n1 (some (.loc 0)) x4 (some (.loc 1))) [.lst (cs.map tD), .lst []] = some ([.int d1], [.lst (cs.map tD), .lst []]) from rfl]
    simp only
    rw [if_pos (by omega), show d1.toNat = m1 by omega]
  let SE : Sto := [.lst (cs.map tD), .lst (ss.map tD)]
  have s9 : dRet (dPrim pTup (aCons (dPrim (cP (pureOf F_law_names) []) (aCons (dPrim (cP (pureOf F_law_big) []) (aCons (dVar 0) (aCons (dC (.int 2)) aNil))) (aCons (dBin pAdd (dC (.int 1)) (dVar 8)) aNil))) (aCons (dPrim pTuple (aCons (dVar 3) aNil)) (aCons (dPrim pTuple (aCons (dVar 5) aNil)) (aCons (dVar 1) aNil))))) (E n2 (some (.loc 0)) y4 (some (.loc 1))) SE = some (.rt (wD bl cs ss n2) SE) := by
    have a1 : dPrim (cP (pureOf F_law_big) []) (aCons (dVar 0) (aCons (dC (.int 2)) aNil)) (E n2 (some (.loc 0)) y4 (some (.loc 1))) SE = some (.int z2, SE) := by
      have args : aCons (dVar 0) (aCons (dC (.int 2)) aNil) (E n2 (some (.loc 0)) y4 (some (.loc 1))) SE = some ([Sc, .int 2], SE) := rfl
      rw [v_prim]
      simp only [args, cb _ _ _ b2]
    have a2 : dPrim (cP (pureOf F_law_names) []) (aCons (dPrim (cP (pureOf F_law_big) []) (aCons (dVar 0) (aCons (dC (.int 2)) aNil))) (aCons (dBin pAdd (dC (.int 1)) (dVar 8)) aNil)) (E n2 (some (.loc 0)) y4 (some (.loc 1))) SE = some (.lst .own (bl.map .str), SE) := by
      have v8 : dVar 8 (E n2 (some (.loc 0)) y4 (some (.loc 1))) SE = some (.int d2, SE) := rfl
      rw [v_prim, v_cons, a1]
      simp only [v_cons, v_nil, v_bin, v_c, v8, v_addI, c4]
    have a3 : dPrim pTuple (aCons (dVar 3) aNil) (E n2 (some (.loc 0)) y4 (some (.loc 1))) SE = some (.tup (cs.map tD), SE) := rfl
    have a4 : dPrim pTuple (aCons (dVar 5) aNil) (E n2 (some (.loc 0)) y4 (some (.loc 1))) SE = some (.tup (ss.map tD), SE) := rfl
    have v1 : dVar 1 (E n2 (some (.loc 0)) y4 (some (.loc 1))) SE = some (.int n2, SE) := rfl
    rw [v_ret, v_prim, v_cons, a2]
    simp only [v_cons, v_nil, a3, a4, v1]
    rfl
  unfold F_law_world b_law_world runF
  show (match (dSeq _ _ [some Sc, none, none, none, none, none, none, none, none] [] : Option Out) with | some (.rt d S') => some (d, S') | some (.nx _ S') => some (.non, S') | _ => none) = _
  rw [v_seq, s1]
  simp only
  rw [v_seq, s2]
  simp only
  rw [v_seq, s3]
  simp only
  rw [v_seq, s4]
  simp only
  rw [v_seq, show dSet 3 (dPrim pLstM aNil) [some Sc, some (.int (z3 / 540)), some (.lst .own (th.map .str)), none, none, none, some (.int d0), some (.int d1), some (.int d2)] [] = some (.nx (E (z3 / 540) (some (.loc 0)) none none) [.lst []]) from rfl]
  simp only
  rw [v_seq, v_for, r1]
  simp only
  rw [show forL (gSet 4) _ (rgD 0 m0) _ [.lst []] = _ from el1]
  simp only
  rw [v_seq, show dSet 5 (dPrim pLstM aNil) (E n1 (some (.loc 0)) x4 none) [.lst (cs.map tD)] = some (.nx (E n1 (some (.loc 0)) x4 (some (.loc 1))) [.lst (cs.map tD), .lst []]) from rfl]
  simp only
  rw [v_seq, v_for, r2]
  simp only
  rw [show forL (gSet 4) _ (rgD 0 m1) _ [.lst (cs.map tD), .lst []] = _ from el2]
  simp only
  rw [show dRet _ _ [.lst (cs.map tD), .lst (ss.map tD)] = _ from s9]
end Lk34

namespace Lk34
open PySem PySem.Spec PyProof.Rows L2 Dn
theorem in2 {k a b : Int} {S : Sto} : pIn false (.int k) (.tup [.int a, .int b]) S = some (.bl (decide (k = a) || decide (k = b)), S) := by
  show (if flD (.int k) = true ∧ [DV.int a, .int b].all flD = true then some (DV.bl (if (false : Bool) then !inD (.int k) [.int a, .int b] else inD (.int k) [.int a, .int b]), S) else none) = _
  rw [if_pos ⟨rfl, rfl⟩]
  have e : inD (.int k) [.int a, .int b] = (decide (k = a) || decide (k = b)) := by
    unfold inD
    by_cases q : k = a
    · subst q
      simp [eqF]
    · have q' : ¬ a = k := fun e => q e.symm
      by_cases q2 : k = b
      · subst q2
        simp [eqF]
      · have q2' : ¬ b = k := fun e => q2 e.symm
        simp [eqF, q, q', q2, q2']
  rw [e]
  rfl
theorem max1 {n : Nat} {S : Sto} : pMax [.int 1, .int n] S = some (.int (max 1 n : Nat), S) := by
  unfold pMax
  simp only
  by_cases q : (1 : Int) < (n : Int)
  · rw [if_pos q, Nat.max_eq_right (by omega)]
  · rw [if_neg q, Nat.max_eq_left (by omega)]
    rfl
theorem tD_good {cs : List (Str × Int × Bool)} (h : ∀ c ∈ cs, IsW c.1) : goodL (cs.map tD) = true ∧ deepL (cs.map tD) ≤ 1 := by
  induction cs with
  | nil => exact ⟨rfl, Nat.zero_le _⟩
  | cons c cs ih =>
    obtain ⟨h1, h2⟩ := ih fun c hc => h c (List.mem_cons_of_mem _ hc)
    have h3 := (h c List.mem_cons_self).ok
    refine ⟨?_, ?_⟩
    · show ((PyData.strOk c.1 && (true && (true && true))) && goodL (cs.map tD)) = true
      rw [h1, h3] <;> rfl
    · show max (max 0 (max 0 (max 0 0)) + 1) (deepL (cs.map tD)) ≤ 1
      omega
theorem ne_unit {S : Sto} {cs : List (Str × Int × Bool)} (h : ∀ c ∈ cs, IsW c.1) : pEq true (.tup (cs.map tD)) (.tup []) S = some (.bl (decide (cs ≠ [])), S) := by
  obtain ⟨g1, g2⟩ := tD_good h
  obtain ⟨p, h1, h2, h3⟩ := toPy_good (d := .tup (cs.map tD)) g1
  have hd : p.depth ≤ 64 := by
    rw [h3]
    show deepL (cs.map tD) + 1 ≤ 64
    omega
  have c1 : cpD true S (.tup (cs.map tD)) = some (.tup (cs.map tD)) := cpD_plain (by rw [plain_tup]; exact tD_plain)
  have c2 : cpD true S (.tup []) = some (.tup []) := rfl
  have s1 : SeqAt.shaped p = true := by
    unfold SeqAt.shaped
    rw [h2, decide_eq_true hd] <;> rfl
  have e : eqDeep S (.tup (cs.map tD)) (.tup []) = some (PyData.eqv p (.tuple [])) := by
    unfold eqDeep
    simp only [c1, c2, h1]
    rw [show toPy (.tup []) = some (.tuple []) from rfl]
    simp only
    rw [if_pos ⟨s1, rfl⟩]
  have hp : PyData.eqv p (.tuple []) = decide (cs = []) := by
    cases cs with
    | nil =>
      have : some p = some (PyData.tuple []) := by rw [← h1] <;> rfl
      cases this
      rfl
    | cons c cs =>
      have h1' : toPy (.tup (tD c :: cs.map tD)) = some p := h1
      unfold toPy at h1'
      cases ht : toPyL (tD c :: cs.map tD) with
      | none =>
        rw [ht] at h1'
        cases h1'
      | some ps =>
        rw [ht] at h1'
        cases h1'
        unfold toPyL at ht
        split at ht
        · split at ht
          · cases ht
            rw [decide_eq_false (by simp)]
            rfl
          · cases ht
        · cases ht
  show (match eqD S (.tup (cs.map tD)) (.tup []) with | some b => some (DV.bl (if (true : Bool) then !b else b), S) | none => none) = _
  have e2 : eqD S (.tup (cs.map tD)) (.tup []) = some (decide (cs = [])) := by
    unfold eqD
    rw [show scD (.tup (cs.map tD)) (.tup []) = none from rfl]
    simp only
    rw [e, hp]
  rw [e2]
  by_cases q : cs = []
  · simp [q]
  · simp [q]
/-! ### rows -/
def rLedW (many : Nat) : PRow → Prop
  | .ifr _ n => n < many
  | .go n => n < many
  | _ => True
def atmIn (bl : List Str) (a : Atm) : Prop := a.Ok ∧ ∀ s, a = .x s → s ∈ bl
structure RowW (bl cn sn : List Str) (many : Nat) (r : PRow) : Prop where
  ok : r.Ok (cn.map .inr) (sn.map .inr)
  led : rLedW many r
  gv : ∀ b, givesL r = some b → b ∈ bl
  at_ : ∀ a ∈ atomsL r, atmIn bl a
theorem pick_atom {bl : List Str} {x5 : DV} {i k a0 a1 : Int} {ρ : List (Option DV)} (h9 : dVar 9 ρ ([] : Sto) = some (.lst .own (bl.map .str), [])) (h5 : dVar 5 ρ ([] : Sto) = some (x5, [])) (hi : pIx x5 (.int i) ([] : Sto) = some (.int a1, [])) (hk : pIx x5 (.int k) ([] : Sto) = some (.int a0, []))
    (b0 : 0 ≤ a0 ∧ a0 < (bl.length : Int) + 1) (b1 : In40 a1) (hz : bl.length < 1000) : ∃ a : Atm, atmIn bl a ∧ dBin pIx (dBin pAdd (dVar 9) (dPrim pLst (aCons (dBin pIx (dVar 5) (dC (.int i))) aNil))) (dBin pIx (dVar 5) (dC (.int k))) ρ [] = some (a.d, []) := by
  have e1 : dBin pAdd (dVar 9) (dPrim pLst (aCons (dBin pIx (dVar 5) (dC (.int i))) aNil)) ρ [] = some (.lst .own (bl.map .str ++ [.int a1]), []) := by
    simp only [v_bin, h9, v_prim, v_cons, v_nil, h5, v_c, hi, v_pLst]
    rw [if_pos (size_ok (by simp))]
    simp only
    rw [v_addL, if_pos (size_ok (by simp; omega))]
  have e2 : ∀ a : Atm, (bl.map DV.str ++ [.int a1])[a0.toNat]? = some a.d → dBin pIx (dBin pAdd (dVar 9) (dPrim pLst (aCons (dBin pIx (dVar 5) (dC (.int i))) aNil))) (dBin pIx (dVar 5) (dC (.int k))) ρ [] = some (a.d, []) := fun a h => by
    rw [v_bin, e1]
    simp only [v_bin, h5, v_c, hk]
    exact Dn.ix_seq (atD_int b0.1 h)
  by_cases q : a0.toNat < bl.length
  · refine ⟨.x (bl[a0.toNat]), ⟨trivial, fun s h => by cases h; exact List.getElem_mem q⟩, e2 _ ?_⟩
    rw [List.getElem?_append_left (by rw [List.length_map]; exact q), List.getElem?_map, List.getElem?_eq_getElem q] <;> rfl
  · refine ⟨.n a1, ⟨b1, fun s h => by cases h⟩, e2 _ ?_⟩
    rw [List.getElem?_append_right (by rw [List.length_map]; omega), List.length_map, show a0.toNat - bl.length = 0 by omega] <;> rfl
theorem ix_bl {bl : List Str} {i : Int} (h : 0 ≤ i ∧ i < bl.length) : ∃ s, s ∈ bl ∧ ∀ {S : Sto}, pIx (.lst .own (bl.map .str)) (.int i) S = some (.str s, S) :=
  ⟨bl[i.toNat]'(by omega), List.getElem_mem _, fun {S} => Dn.ix_seq (atD_int h.1 (by rw [List.getElem?_map, List.getElem?_eq_getElem (by omega)] <;> rfl))⟩
theorem ix_cs {cs : List (Str × Int × Bool)} {i : Int} (h : 0 ≤ i ∧ i < cs.length) : ∃ c, c ∈ cs ∧ ∀ {S : Sto}, pIx (.tup (cs.map tD)) (.int i) S = some (tD c, S) :=
  ⟨cs[i.toNat]'(by omega), List.getElem_mem _, fun {S} => ix_tup (atD_int h.1 (by rw [List.getElem?_map, List.getElem?_eq_getElem (by omega)] <;> rfl))⟩
theorem hasK_names {cs : List (Str × Int × Bool)} {c : Str × Int × Bool} (h : c ∈ cs) : hasK ((cs.map (·.1)).map fun s => (Sum.inr s : Key)) (.inr c.1) = true := by
  unfold hasK
  exact List.any_eq_true.mpr ⟨.inr c.1, List.mem_map_of_mem (List.mem_map_of_mem h), by simp⟩
theorem sign8 {i : Int} (h : 0 ≤ i ∧ i < 8) : ∃ s, isSign s ∧ ∀ {S : Sto}, pIx (.str "+-*<=&|^") (.int i) S = some (.str s, S) := by
  rcases (show i = 0 ∨ i = 1 ∨ i = 2 ∨ i = 3 ∨ i = 4 ∨ i = 5 ∨ i = 6 ∨ i = 7 by omega) with q | q | q | q | q | q | q | q
  · exact ⟨"+", .inl rfl, fun {S} => by rw [q] <;> rfl⟩
  · exact ⟨"-", .inr (.inl rfl), fun {S} => by rw [q] <;> rfl⟩
  · exact ⟨"*", .inr (.inr (.inl rfl)), fun {S} => by rw [q] <;> rfl⟩
  · exact ⟨"<", .inr (.inr (.inr (.inl rfl))), fun {S} => by rw [q] <;> rfl⟩
  · exact ⟨"=", .inr (.inr (.inr (.inr (.inl rfl)))), fun {S} => by rw [q] <;> rfl⟩
  · exact ⟨"&", .inr (.inr (.inr (.inr (.inr (.inl rfl))))), fun {S} => by rw [q] <;> rfl⟩
  · exact ⟨"|", .inr (.inr (.inr (.inr (.inr (.inr (.inl rfl)))))), fun {S} => by rw [q] <;> rfl⟩
  · exact ⟨"^", .inr (.inr (.inr (.inr (.inr (.inr (.inr rfl)))))), fun {S} => by rw [q] <;> rfl⟩
theorem sizes_loop {r1 r2 r3 r5 r6 r7 r8 : Option DV} {rr : List (Option DV)} : ∀ (ss : List Int) (n : Int) (x4 : Option DV), (∀ s ∈ ss, 0 < s ∧ s < 18446744073709551616) →
    ∃ n' x4', forL (gSet 4) (dSet 0 (dBin pDiv (dVar 0) (dVar 4))) (ss.map .int) (some (.int n) :: r1 :: r2 :: r3 :: x4 :: rr) ([] : Sto) = some (.nx (some (.int n') :: r1 :: r2 :: r3 :: x4' :: rr) [])
  | [], n, x4, _ => ⟨n, x4, rfl⟩
  | s :: ss, n, x4, h => by
    obtain ⟨h1, h2⟩ := h s List.mem_cons_self
    have pd : pDiv (.int n) (.int s) ([] : Sto) = some (.int (n / s), []) := v_divI h1 h2
    obtain ⟨n', x4', ih⟩ := sizes_loop (r1 := r1) (r2 := r2) (r3 := r3) (rr := rr) (r5 := r5) (r6 := r6) (r7 := r7) (r8 := r8) ss (n / s) (some (.int s)) fun s hs => h s (List.mem_cons_of_mem _ hs)
    refine ⟨n', x4', ?_⟩
    rw [List.map_cons]
    unfold forL
    simp only [v_gset, List.set_cons_succ, List.set_cons_zero, v_set, v_bin, Dn.v_var, List.getElem?_cons_zero, List.getElem?_cons_succ, pd]
    exact ih
theorem row_ok (n : Int) (many : Nat) (hm : 0 < many) (hmz : many < 1000) {bl : List Str} {cells shelves : List (Str × Int × Bool)} (W : Wrl bl cells shelves) (rest : Int) :
    ∃ r : PRow, pureOf F_law_row [.int n, wD bl cells shelves rest, .int many] = some r.d ∧ RowW bl (cells.map (·.1)) (shelves.map (·.1)) many r := by
  have bm := W.bm
  have b0 := W.b0
  have c8 := W.c8
  have s4 := W.s4
  let B : DV := .lst .own (bl.map .str)
  let C : DV := .tup (cells.map tD)
  let F : DV := .tup (shelves.map tD)
  let SS : List Int := [11, bl.length, (max 1 cells.length : Nat), (max 1 shelves.length : Nat), 8, many]
  have hSS : ∀ s ∈ SS, 0 < s ∧ s < 18446744073709551616 := fun s hs => by
    simp only [SS, List.mem_cons, List.not_mem_nil, or_false] at hs
    rcases hs with h | h | h | h | h | h <;> subst h <;> omega
  have hd1 := digits_eq n SS hSS (by simp [SS])
  obtain ⟨kd, xi, ci, fi, sg, gl, hD, ⟨k0, k1⟩, bx, bc, bf, bs, bg⟩ : ∃ kd xi ci fi sg gl : Int, digs n SS = [kd, xi, ci, fi, sg, gl] ∧ (0 ≤ kd ∧ kd < 11) ∧ (0 ≤ xi ∧ xi < bl.length) ∧ (0 ≤ ci ∧ ci < (max 1 cells.length : Nat)) ∧ (0 ≤ fi ∧ fi < (max 1 shelves.length : Nat)) ∧ (0 ≤ sg ∧ sg < 8) ∧ (0 ≤ gl ∧ gl < many) :=
    ⟨_, _, _, _, _, _, rfl, dg (by decide), dg (by omega), dg (by omega), dg (by omega), dg (by decide), dg (by omega)⟩
  rw [hD] at hd1
  have hd1 : pureOf F_law_digits [.int n, .lst .own (SS.map .int)] = some (.lst .own [.int kd, .int xi, .int ci, .int fi, .int sg, .int gl]) := hd1
  obtain ⟨n', x4', el⟩ := sizes_loop (r1 := some (wD bl cells shelves rest)) (r2 := some (.int many)) (r3 := some (.lst .own (SS.map .int))) (rr := [none, none, none, none, some B, some C, some F, some (.int rest), some (.int kd), some (.int xi), some (.int ci), some (.int fi), some (.int sg), some (.int gl)]) (r5 := none) (r6 := none) (r7 := none) (r8 := none) SS n none hSS
  let AS : List Int := [(bl.length : Int) + 1, 2 ^ 40, (bl.length : Int) + 1, 2 ^ 40]
  have hd2 := digits_eq n' AS (fun s hs => by
    simp only [AS, List.mem_cons, List.not_mem_nil, or_false] at hs
    rcases hs with h | h | h | h <;> subst h <;> omega) (by simp [AS])
  obtain ⟨a0, a1, a2, a3, hA, ba0, ba1, ba2, ba3⟩ : ∃ a0 a1 a2 a3 : Int, digs n' AS = [a0, a1, a2, a3] ∧ (0 ≤ a0 ∧ a0 < (bl.length : Int) + 1) ∧ In40 a1 ∧ (0 ≤ a2 ∧ a2 < (bl.length : Int) + 1) ∧ In40 a3 :=
    ⟨_, _, _, _, rfl, dg (by omega), dg (by decide), dg (by omega), dg (by decide)⟩
  rw [hA] at hd2
  have hd2 : pureOf F_law_digits [.int n', .lst .own (AS.map .int)] = some (.lst .own [.int a0, .int a1, .int a2, .int a3]) := hd2
  let AT : DV := .lst .own [.int a0, .int a1, .int a2, .int a3]
  let R5 : Option DV → Option DV → List (Option DV) := fun y6 y7 => [some (.int n'), some (wD bl cells shelves rest), some (.int many), some (.lst .own (SS.map .int)), x4', some AT, y6, y7, none, some B, some C, some F, some (.int rest), some (.int kd), some (.int xi), some (.int ci), some (.int fi), some (.int sg), some (.int gl)]
  obtain ⟨one, hone, eone⟩ := pick_atom (bl := bl) (x5 := AT) (i := 1) (k := 0) (a0 := a0) (a1 := a1) (ρ := R5 none none) rfl rfl rfl rfl ba0 ba1 (by omega)
  obtain ⟨oth, hoth, eoth⟩ := pick_atom (bl := bl) (x5 := AT) (i := 3) (k := 2) (a0 := a2) (a1 := a3) (ρ := R5 (some one.d) none) rfl rfl rfl rfl ba2 ba3 (by omega)
  obtain ⟨x, hx, ex⟩ := ix_bl bx
  obtain ⟨sgn, hsg, esg⟩ := sign8 bs
  obtain ⟨g, hg⟩ : ∃ g : Nat, (g : Int) = gl := ⟨gl.toNat, by omega⟩
  have hgm : g < many := by omega
  subst hg
  have neC : ∀ {S : Sto}, pEq true C (.tup []) S = some (.bl (decide (cells ≠ [])), S) := fun {S} => ne_unit fun c hc => (W.cw c hc).1
  have neF : ∀ {S : Sto}, pEq true F (.tup []) S = some (.bl (decide (shelves ≠ [])), S) := fun {S} => ne_unit fun c hc => (W.sw c hc).1
  have hR : ∀ y6 y7, R5 y6 y7 = [some (.int n'), some (wD bl cells shelves rest), some (.int many), some (.lst .own (SS.map .int)), x4', some AT, y6, y7, none, some B, some C, some F, some (.int rest), some (.int kd), some (.int xi), some (.int ci), some (.int fi), some (.int sg), some (.int (g : Nat))] := fun _ _ => rfl
  -- the first part
  have s1 : dAsg (dVar 1) (gTupD 4 (gsCons (gSet 9) (gsCons (gSet 10) (gsCons (gSet 11) (gsCons (gSet 12) gsNil))))) [some (.int n), some (wD bl cells shelves rest), some (.int many), none, none, none, none, none, none, none, none, none, none, none, none, none, none, none, none] [] = some (.nx [some (.int n), some (wD bl cells shelves rest), some (.int many), none, none, none, none, none, none, some B, some C, some F, some (.int rest), none, none, none, none, none, none] []) := rfl
  have s2 : dSet 3 (dPrim pLst (aCons (dC (.int 11)) (aCons (dPrim pLen (aCons (dVar 9) aNil)) (aCons (dPrim pMax (aCons (dC (.int 1)) (aCons (dPrim pLen (aCons (dVar 10) aNil)) aNil))) (aCons (dPrim pMax (aCons (dC (.int 1)) (aCons (dPrim pLen (aCons (dVar 11) aNil)) aNil))) (aCons (dC (.int 8)) (aCons (dVar 2) aNil))))))) [some (.int n), some (wD bl cells shelves rest), some (.int many), none, none, none, none, none, none, some B, some C, some F, some (.int rest), none, none, none, none, none, none] [] = some (.nx [some (.int n), some (wD bl cells shelves rest), some (.int many), some (.lst .own (SS.map .int)), none, none, none, none, none, some B, some C, some F, some (.int rest), none, none, none, none, none, none] []) := by
    have l1 : pLen [B] ([] : Sto) = some (.int bl.length, []) := by
      show some (DV.int ((bl.map DV.str).length : Nat), _) = _
      rw [List.length_map]
    have l2 : pLen [C] ([] : Sto) = some (.int cells.length, []) := by
      show some (DV.int ((cells.map tD).length : Nat), _) = _
      rw [List.length_map]
    have l3 : pLen [F] ([] : Sto) = some (.int shelves.length, []) := by
      show some (DV.int ((shelves.map tD).length : Nat), _) = _
      rw [List.length_map]
    simp only [v_set, v_prim, v_cons, v_nil, v_c, Dn.v_var, List.getElem?_cons_succ, List.getElem?_cons_zero, l1, l2, l3, max1, v_pLst]
    rfl
  have s3 : dAsg (dPrim (cP (pureOf F_law_digits) []) (aCons (dVar 0) (aCons (dVar 3) aNil))) (gLstD 6 (gsCons (gSet 13) (gsCons (gSet 14) (gsCons (gSet 15) (gsCons (gSet 16) (gsCons (gSet 17) (gsCons (gSet 18) gsNil))))))) [some (.int n), some (wD bl cells shelves rest), some (.int many), some (.lst .own (SS.map .int)), none, none, none, none, none, some B, some C, some F, some (.int rest), none, none, none, none, none, none] [] = some (.nx [some (.int n), some (wD bl cells shelves rest), some (.int many), some (.lst .own (SS.map .int)), none, none, none, none, none, some B, some C, some F, some (.int rest), some (.int kd), some (.int xi), some (.int ci), some (.int fi), some (.int sg), some (.int (g : Nat))] []) := by
    have args : aCons (dVar 0) (aCons (dVar 3) aNil) [some (.int n), some (wD bl cells shelves rest), some (.int many), some (.lst .own (SS.map .int)), none, none, none, none, none, some B, some C, some F, some (.int rest), none, none, none, none, none, none] ([] : Sto) = some ([.int n, .lst .own (SS.map .int)], []) := rfl
    have c1 : cP (pureOf F_law_digits) [] [.int n, .lst .own (SS.map .int)] ([] : Sto) = some (.lst .own [.int kd, .int xi, .int ci, .int fi, .int sg, .int (g : Nat)], []) := by
      simp only [cP_eq, cpL_plain (show plainL [DV.int n, .lst .own (SS.map .int)] = true from rfl), hd1]
    unfold dAsg
    rw [v_prim]
    simp only [args, c1]
    rfl
  have s5 : dSet 5 (dPrim (cP (pureOf F_law_digits) []) (aCons (dVar 0) (aCons (dPrim pLst (aCons (dBin pAdd (dPrim pLen (aCons (dVar 9) aNil)) (dC (.int 1))) (aCons (dBin pPow (dC (.int 2)) (dC (.int 40))) (aCons (dBin pAdd (dPrim pLen (aCons (dVar 9) aNil)) (dC (.int 1))) (aCons (dBin pPow (dC (.int 2)) (dC (.int 40))) aNil))))) aNil))) [some (.int n'), some (wD bl cells shelves rest), some (.int many), some (.lst .own (SS.map .int)), x4', none, none, none, none, some B, some C, some F, some (.int rest), some (.int kd), some (.int xi), some (.int ci), some (.int fi), some (.int sg), some (.int (g : Nat))] [] = some (.nx (R5 none none) []) := by
    have l1 : pLen [B] ([] : Sto) = some (.int bl.length, []) := by
      show some (DV.int ((bl.map DV.str).length : Nat), _) = _
      rw [List.length_map]
    have c1 : cP (pureOf F_law_digits) [] [.int n', .lst .own (AS.map .int)] ([] : Sto) = some (AT, []) := by
      simp only [cP_eq, cpL_plain (show plainL [DV.int n', .lst .own (AS.map .int)] = true from rfl), hd2]
      rfl
    have c1 : cP (pureOf F_law_digits) [] [.int n', .lst .own [.int ((bl.length : Int) + 1), .int (2 ^ 40), .int ((bl.length : Int) + 1), .int (2 ^ 40)]] ([] : Sto) = some (AT, []) := c1
    have z4 : ([DV.int ((bl.length : Int) + 1), .int (2 ^ 40), .int ((bl.length : Int) + 1), .int (2 ^ 40)]).length ≤ sizeLine := size_ok (by show 4 ≤ _; omega)
    simp only [v_set, v_prim, v_cons, v_nil, v_c, v_bin, Dn.v_var, List.getElem?_cons_succ, List.getElem?_cons_zero, l1, v_addI, pw40, v_pLst]
    rw [if_pos z4]
    simp only [c1]
    rfl
  have key : ∃ r : PRow, RowW bl (cells.map (·.1)) (shelves.map (·.1)) many r ∧ F_law_row [.int n, wD bl cells shelves rest, .int many] [] = some (r.d, []) := by
    have run : ∀ r : PRow, RowW bl (cells.map (·.1)) (shelves.map (·.1)) many r → ∀ tail : DS, tail (R5 (some one.d) (some oth.d)) [] = some (.rt r.d []) → b_law_row = (dSeq (dAsg (dVar 1) (gTupD 4 (gsCons (gSet 9) (gsCons (gSet 10) (gsCons (gSet 11) (gsCons (gSet 12) gsNil))))))
  (dSeq (dSet 3 (dPrim pLst (aCons (dC (.int 11)) (aCons (dPrim pLen (aCons (dVar 9) aNil)) (aCons (dPrim pMax (aCons (dC (.int 1)) (aCons (dPrim pLen (aCons (dVar 10) aNil)) aNil))) (aCons (dPrim pMax (aCons (dC (.int 1)) (aCons (dPrim pLen (aCons (dVar 11) aNil)) aNil))) (aCons (dC (.int 8)) (aCons (dVar 2) aNil))))))))
  (dSeq (dAsg (dPrim (cP (pureOf F_law_digits) []) (aCons (dVar 0) (aCons (dVar 3) aNil))) (gLstD 6 (gsCons (gSet 13) (gsCons (gSet 14) (gsCons (gSet 15) (gsCons (gSet 16) (gsCons (gSet 17) (gsCons (gSet 18) gsNil))))))))
  (dSeq (dFor (iSeq (dVar 3)) (gSet 4) (dSet 0 (dBin pDiv (dVar 0) (dVar 4))))
  (dSeq (dSet 5 (dPrim (cP (pureOf F_law_digits) []) (aCons (dVar 0) (aCons (dPrim pLst (aCons (dBin pAdd (dPrim pLen (aCons (dVar 9) aNil)) (dC (.int 1))) (aCons (dBin pPow (dC (.int 2)) (dC (.int 40))) (aCons (dBin pAdd (dPrim pLen (aCons (dVar 9) aNil)) (dC (.int 1))) (aCons (dBin pPow (dC (.int 2)) (dC (.int 40))) aNil))))) aNil))))
  (dSeq (dSet 6 (dBin pIx (dBin pAdd (dVar 9) (dPrim pLst (aCons (dBin pIx (dVar 5) (dC (.int 1))) aNil))) (dBin pIx (dVar 5) (dC (.int 0)))))
  (dSeq (dSet 7 (dBin pIx (dBin pAdd (dVar 9) (dPrim pLst (aCons (dBin pIx (dVar 5) (dC (.int 3))) aNil))) (dBin pIx (dVar 5) (dC (.int 2))))) tail))))))) →
      ∃ r : PRow, RowW bl (cells.map (·.1)) (shelves.map (·.1)) many r ∧ F_law_row [.int n, wD bl cells shelves rest, .int many] [] = some (r.d, []) := fun r hr tail ht hb => by
      refine ⟨r, hr, ?_⟩
      unfold F_law_row runF
      rw [hb]
      show (match (dSeq _ _ [some (.int n), some (wD bl cells shelves rest), some (.int many), none, none, none, none, none, none, none, none, none, none, none, none, none, none, none, none] [] : Option Out) with | some (.rt d S') => some (d, S') | some (.nx _ S') => some (.non, S') | _ => none) = _
      rw [v_seq, s1]
      simp only
      rw [v_seq, s2]
      simp only
      rw [v_seq, s3]
      simp only
      rw [v_seq, v_for, show iSeq (dVar 3) [some (.int n), some (wD bl cells shelves rest), some (.int many), some (.lst .own (SS.map .int)), none, none, none, none, none, some B, some C, some F, some (.int rest), some (.int kd), some (.int xi), some (.int ci), some (.int fi), some (.int sg), some (.int (g : Nat))] ([] : Sto) = some (SS.map .int, []) from rfl]
      simp only
      rw [el]
      simp only
      rw [v_seq, s5]
      simp only
      rw [v_seq, v_set, eone]
      simp only
      rw [v_seq, v_set, show (R5 none none).set 6 (some one.d) = R5 (some one.d) none from rfl, eoth]
      simp only
      rw [show (R5 (some one.d) none).set 7 (some oth.d) = R5 (some one.d) (some oth.d) from rfl, ht]
    have c0 : ∀ (c : Str × Int × Bool) {S : Sto}, pIx (tD c) (.int 0) S = some (.str c.1, S) := fun c {S} => rfl
    have ixC : ∀ {S : Sto}, pIx C (.int ci) S = pIx (.tup (cells.map tD)) (.int ci) S := fun {S} => rfl
    have ixF : ∀ {S : Sto}, pIx F (.int fi) S = pIx (.tup (shelves.map tD)) (.int fi) S := fun {S} => rfl
    have exB : ∀ {S : Sto}, pIx B (.int xi) S = some (.str x, S) := ex
    clear_value B C F AT
    have one1 : ∀ {a : Atm}, atmIn bl a → ∀ b ∈ [a], atmIn bl b := fun {a} h b hb => by
      rw [List.mem_singleton.mp hb]
      exact h
    have two2 : ∀ b ∈ [one, oth], atmIn bl b := fun b hb => by
      rcases List.mem_cons.mp hb with hb | hb
      · rw [hb]
        exact hone
      · rw [List.mem_singleton.mp hb]
        exact hoth
    have gvx : ∀ b, some x = some b → b ∈ bl := fun b h => by
      cases h
      exact hx
    have nob : ∀ b : Str, (none : Option Str) = some b → b ∈ bl := fun b h => by cases h
    have noa : ∀ a ∈ ([] : List Atm), atmIn bl a := fun a h => by cases h
    have rcopy : RowW bl (cells.map (·.1)) (shelves.map (·.1)) many (.copy x one) := ⟨hone.1, trivial, gvx, one1 hone⟩
    by_cases q2 : (kd = 2 ∨ kd = 3) ∧ cells ≠ []
    · obtain ⟨q, qc⟩ := q2
      have hlen : 0 < cells.length := List.length_pos_iff.mpr qc
      obtain ⟨c, hc, ec⟩ := ix_cs (cs := cells) (i := ci) ⟨bc.1, by omega⟩
      have ec : ∀ {S : Sto}, pIx C (.int ci) S = some (tD c, S) := fun {S} => ixC.trans ec
      rcases q with q | q
      · refine run (.load x c.1) ⟨hasK_names hc, trivial, gvx, noa⟩ _ ?_ rfl
        simp only [hR]
        simp [in2, q, neC, qc, exB, ec, c0, PRow.d]
        rfl
      · refine run (.store c.1 one) ⟨⟨hasK_names hc, hone.1⟩, trivial, nob, one1 hone⟩ _ ?_ rfl
        simp only [hR]
        simp [in2, q, neC, qc, exB, ec, c0, PRow.d]
        rfl
    by_cases q3 : (kd = 4 ∨ kd = 5) ∧ shelves ≠ []
    · obtain ⟨q, qc⟩ := q3
      have hlen : 0 < shelves.length := List.length_pos_iff.mpr qc
      obtain ⟨c, hc, ec⟩ := ix_cs (cs := shelves) (i := fi) ⟨bf.1, by omega⟩
      have ec : ∀ {S : Sto}, pIx F (.int fi) S = some (tD c, S) := fun {S} => ixF.trans ec
      rcases q with q | q
      · refine run (.take x c.1 one) ⟨⟨hasK_names hc, hone.1⟩, trivial, gvx, one1 hone⟩ _ ?_ rfl
        simp only [hR]
        simp [in2, q, neF, qc, exB, ec, c0, PRow.d]
        rfl
      · refine run (.lay c.1 one oth) ⟨⟨hasK_names hc, hone.1, hoth.1⟩, trivial, nob, two2⟩ _ ?_ rfl
        simp only [hR]
        simp [in2, q, neF, qc, exB, ec, c0, PRow.d]
        rfl
    rcases (show kd = 0 ∨ kd = 1 ∨ kd = 2 ∨ kd = 3 ∨ kd = 4 ∨ kd = 5 ∨ kd = 6 ∨ kd = 7 ∨ kd = 8 ∨ kd = 9 ∨ kd = 10 by omega) with q | q | q | q | q | q | q | q | q | q | q
    · refine run (.copy x one) rcopy _ ?_ rfl
      simp only [hR]
      simp [in2, q, exB, PRow.d]
    · refine run (.op x sgn one oth) ⟨⟨hsg, hone.1, hoth.1⟩, trivial, gvx, two2⟩ _ ?_ rfl
      simp only [hR]
      simp [in2, q, exB, esg, PRow.d]
    · have qe : cells = [] := Classical.byContradiction fun h => q2 ⟨.inl q, h⟩
      refine run (.copy x one) rcopy _ ?_ rfl
      simp only [hR]
      simp [in2, q, neC, qe, exB, PRow.d]
    · have qe : cells = [] := Classical.byContradiction fun h => q2 ⟨.inr q, h⟩
      refine run (.copy x one) rcopy _ ?_ rfl
      simp only [hR]
      simp [in2, q, neC, qe, exB, PRow.d]
    · have qe : shelves = [] := Classical.byContradiction fun h => q3 ⟨.inl q, h⟩
      refine run (.copy x one) rcopy _ ?_ rfl
      simp only [hR]
      simp [in2, q, neF, qe, exB, PRow.d]
    · have qe : shelves = [] := Classical.byContradiction fun h => q3 ⟨.inr q, h⟩
      refine run (.copy x one) rcopy _ ?_ rfl
      simp only [hR]
      simp [in2, q, neF, qe, exB, PRow.d]
    · refine run (.hear x) ⟨trivial, trivial, gvx, noa⟩ _ ?_ rfl
      simp only [hR]
      simp [in2, q, exB, PRow.d]
      rfl
    · refine run (.say one) ⟨hone.1, trivial, nob, one1 hone⟩ _ ?_ rfl
      simp only [hR]
      simp [in2, q, exB, PRow.d]
      rfl
    · refine run (.ifr one g) ⟨hone.1, hgm, nob, one1 hone⟩ _ ?_ rfl
      simp only [hR]
      simp [in2, q, exB, PRow.d]
      rfl
    · refine run (.go g) ⟨trivial, hgm, nob, noa⟩ _ ?_ rfl
      simp only [hR]
      simp [in2, q, exB, PRow.d]
      rfl
    · refine run (.endr one) ⟨hone.1, trivial, nob, one1 hone⟩ _ ?_ rfl
      simp only [hR]
      simp [in2, q, exB, PRow.d]
      rfl
  obtain ⟨r, hr, e⟩ := key
  exact ⟨r, pureOf_of e PRow.plain_d, hr⟩
end Lk34

namespace Lk34
open PySem PySem.Spec PyProof.Rows L2 Dn
abbrev prD (cells shelves : List (Str × Int × Bool)) (rows : List PRow) : DV := .tup [.tup (cells.map tD), .tup (shelves.map tD), .tup (rows.map PRow.d)]
theorem rowsW_of {P : PRow → Prop} : ∀ {as ys : List DV}, All2 (fun _ y => ∃ r : PRow, y = r.d ∧ P r) as ys → ∃ rs : List PRow, ys = rs.map PRow.d ∧ ∀ r ∈ rs, P r
  | _, _, .nil => ⟨[], rfl, fun _ h => by cases h⟩
  | _, _, .cons h t => by
    obtain ⟨r, rfl, hr⟩ := h
    obtain ⟨rs, rfl, hrs⟩ := rowsW_of t
    exact ⟨r :: rs, rfl, fun x hx => by
      rcases List.mem_cons.mp hx with e | e
      · rw [e]
        exact hr
      · exact hrs x e⟩
theorem rows_plainW {rs : List PRow} : plainL (rs.map PRow.d) = true := plainL_iff.mpr fun d h => by
  obtain ⟨c, _, rfl⟩ := List.mem_map.mp h
  exact PRow.plain_d
theorem prD_plain {cells shelves : List (Str × Int × Bool)} {rows : List PRow} : plain (prD cells shelves rows) = true := by
  have pc := tD_plain (cs := cells)
  have ps := tD_plain (cs := shelves)
  have pr := rows_plainW (rs := rows)
  simp [pc, ps, pr]
/-- a program is told -/
structure Prg (bl : List Str) (cells shelves : List (Str × Int × Bool)) (rows : List PRow) : Prop where
  w : Wrl bl cells shelves
  n0 : 0 < rows.length
  nz : rows.length ≤ 63
  rw : ∀ r ∈ rows, RowW bl (cells.map (·.1)) (shelves.map (·.1)) rows.length r
  led : ∀ (a : Nat) (r : PRow), rows[a]? = some r → ∀ t ∈ r.led a, t < rows.length
theorem program_ok (ns : List Int) (hl : ns.length ≤ 63) (most : Nat) (hmost : most ≤ 60) {bl : List Str} {cells shelves : List (Str × Int × Bool)} {rest : Int} (W : Wrl bl cells shelves) (hw : pureOf F_law_world [.lst .ext (ns.map DV.int)] = some (wD bl cells shelves rest)) :
    ∃ rows, Prg bl cells shelves rows ∧ pureOf F_law_program [.lst .ext (ns.map DV.int), .int most] = some (prD cells shelves rows) := by
  let Sc : DV := .lst .ext (ns.map DV.int)
  have bm := W.bm
  have b0 := W.b0
  obtain ⟨many, hmany, hm1, hm2⟩ : ∃ many : Nat, (many : Int) = (if (if (1 : Int) + most < (ns.length : Int) - 5 then (1 : Int) + most else (ns.length : Int) - 5) > 1 then (if (1 : Int) + most < (ns.length : Int) - 5 then (1 : Int) + most else (ns.length : Int) - 5) else 1) ∧ 0 < many ∧ many ≤ 63 := by
    refine ⟨(if (if (1 : Int) + most < (ns.length : Int) - 5 then (1 : Int) + most else (ns.length : Int) - 5) > 1 then (if (1 : Int) + most < (ns.length : Int) - 5 then (1 : Int) + most else (ns.length : Int) - 5) else 1).toNat, ?_, ?_, ?_⟩ <;> split <;> split at * <;> omega
  let WD : DV := wD bl cells shelves rest
  let B : DV := .lst .own (bl.map .str)
  have pS : ∀ k : Int, plainL [Sc, .int k] = true := fun k => by simp [Sc]
  let ρ3 : List (Option DV) := [some Sc, some (.int most), some WD, some (.int many), none, none, none, none, none, none]
  have hr : iRange1 (aCons (dBin pSub (dVar 3) (dC (.int 1))) aNil) ρ3 [] = some (rgD 0 (many - 1), []) := by
    unfold iRange1
    rw [show aCons (dBin pSub (dVar 3) (dC (.int 1))) aNil ρ3 [] = some ([.int ((many : Int) - 1)], []) from rfl]
    simp only
    rw [if_pos (by omega), show ((many : Int) - 1).toNat = many - 1 by omega]
  obtain ⟨ys, hys, h2⟩ := lcL_ex (g := gSet 9) (c := dC (.bl true)) (fe := dPrim (cP (pureOf F_law_row) []) (aCons (dPrim (cP (pureOf F_law_big) []) (aCons (dVar 0) (aCons (dBin pAdd (dC (.int 6)) (dVar 9)) aNil))) (aCons (dVar 2) (aCons (dVar 3) aNil)))) (ρ := dwipe ρ3 [9]) (S := []) (P := fun _ y => ∃ r : PRow, y = r.d ∧ RowW bl (cells.map (·.1)) (shelves.map (·.1)) many r) (ds := rgD 0 (many - 1)) fun d hd => by
    obtain ⟨k, hk, rfl⟩ := mem_rgD hd
    obtain ⟨z, hz⟩ := big_eq ns (6 + k) (by omega)
    obtain ⟨r, hr, ok⟩ := row_ok z many hm1 (by omega) W rest
    refine ⟨_, r.d, rfl, rfl, ?_, r, rfl, ok⟩
    have e1 : cP (pureOf F_law_big) [] [Sc, .int (6 + (0 + (k : Nat)))] ([] : Sto) = some (.int z, []) := by
      have : pureOf F_law_big [Sc, .int (6 + (0 + (k : Nat)))] = some (.int z) := by
        rw [show (6 + (0 + (k : Nat)) : Int) = ((6 + k : Nat) : Int) by omega]
        exact hz
      simp only [cP_eq, cpL_plain (pS _), this]
    have p2 : plainL [DV.int z, WD, .int many] = true := by
      have := wD_plain (bl := bl) (cells := cells) (shelves := shelves) (rest := rest)
      show plainL [DV.int z, wD bl cells shelves rest, .int many] = true
      generalize wD bl cells shelves rest = wd at this
      simp [this]
    have e2 : cP (pureOf F_law_row) [] [.int z, WD, .int many] ([] : Sto) = some (r.d, []) := by
      have hr : pureOf F_law_row [.int z, WD, .int many] = some r.d := hr
      simp only [cP_eq, cpL_plain p2, hr]
    show dPrim _ _ [some Sc, some (.int most), some WD, some (.int many), none, none, none, none, none, some (.int (0 + (k : Nat)))] [] = _
    have a1 : dPrim (cP (pureOf F_law_big) []) (aCons (dVar 0) (aCons (dBin pAdd (dC (.int 6)) (dVar 9)) aNil)) [some Sc, some (.int most), some WD, some (.int many), none, none, none, none, none, some (.int (0 + (k : Nat)))] ([] : Sto) = some (.int z, []) := by
      have args : aCons (dVar 0) (aCons (dBin pAdd (dC (.int 6)) (dVar 9)) aNil) [some Sc, some (.int most), some WD, some (.int many), none, none, none, none, none, some (.int (0 + (k : Nat)))] ([] : Sto) = some ([Sc, .int (6 + (0 + (k : Nat)))], []) := rfl
      rw [v_prim]
      simp only [args, e1]
    have v2 : dVar 2 [some Sc, some (.int most), some WD, some (.int many), none, none, none, none, none, some (.int (0 + (k : Nat)))] ([] : Sto) = some (WD, []) := rfl
    have v3 : dVar 3 [some Sc, some (.int most), some WD, some (.int many), none, none, none, none, none, some (.int (0 + (k : Nat)))] ([] : Sto) = some (.int many, []) := rfl
    rw [v_prim, v_cons, a1]
    simp only [v_cons, v_nil, v2, v3, e2]
  have yl : ys.length = many - 1 := by
    have := h2.len
    rw [len_rgD] at this
    exact this.symm
  obtain ⟨rs, rfl, hrs⟩ := rowsW_of h2
  rw [List.length_map] at yl
  -- the last row
  let LS : List Int := [2, many, (bl.length : Int) + 1, 2 ^ 40]
  have hd := digits_eq rest LS (fun s hs => by
    simp only [LS, List.mem_cons, List.not_mem_nil, or_false] at hs
    rcases hs with h | h | h | h <;> subst h <;> omega) (by simp [LS])
  obtain ⟨la, go, bo, nu, hD, ⟨la0, la1⟩, bgo, bbo, bnu⟩ : ∃ la go bo nu : Int, digs rest LS = [la, go, bo, nu] ∧ (0 ≤ la ∧ la < 2) ∧ (0 ≤ go ∧ go < many) ∧ (0 ≤ bo ∧ bo < (bl.length : Int) + 1) ∧ In40 nu :=
    ⟨_, _, _, _, rfl, dg (by decide), dg (by omega), dg (by omega), dg (by decide)⟩
  rw [hD] at hd
  have hd : pureOf F_law_digits [.int rest, .lst .own [.int 2, .int many, .int ((bl.length : Int) + 1), .int (2 ^ 40)]] = some (.lst .own [.int la, .int go, .int bo, .int nu]) := hd
  obtain ⟨g, hg⟩ : ∃ g : Nat, (g : Int) = go := ⟨go.toNat, by omega⟩
  have hgm : g < many := by omega
  subst hg
  obtain ⟨a, ha, ea⟩ : ∃ a : Atm, atmIn bl a ∧ ∀ {S : Sto}, pIx (.lst .own (bl.map .str ++ [.int nu])) (.int bo) S = some (a.d, S) := by
    by_cases q : bo.toNat < bl.length
    · refine ⟨.x (bl[bo.toNat]), ⟨trivial, fun s h => by cases h; exact List.getElem_mem q⟩, fun {S} => Dn.ix_seq (atD_int bbo.1 ?_)⟩
      rw [List.getElem?_append_left (by rw [List.length_map]; exact q), List.getElem?_map, List.getElem?_eq_getElem q] <;> rfl
    · refine ⟨.n nu, ⟨bnu, fun s h => by cases h⟩, fun {S} => Dn.ix_seq (atD_int bbo.1 ?_)⟩
      rw [List.getElem?_append_right (by rw [List.length_map]; omega), List.length_map, show bo.toNat - bl.length = 0 by omega] <;> rfl
  obtain ⟨last, hlast, elast⟩ : ∃ last : PRow, (last = .endr a ∨ last = .go g) ∧ ∀ {S : Sto}, pIx (.lst .own [.tup [.str "end", a.d], .tup [.str "go", .int g]]) (.int la) S = some (last.d, S) := by
    rcases (show la = 0 ∨ la = 1 by omega) with q | q
    · exact ⟨.endr a, .inl rfl, fun {S} => by rw [q] <;> rfl⟩
    · exact ⟨.go g, .inr rfl, fun {S} => by rw [q] <;> rfl⟩
  let rows := rs ++ [last]
  have rlen : rows.length = many := by simp [rows, yl]; omega
  have lastW : RowW bl (cells.map (·.1)) (shelves.map (·.1)) many last := by
    rcases hlast with rfl | rfl
    · exact ⟨ha.1, trivial, fun b h => (by cases h), fun b hb => by
        rw [List.mem_singleton.mp (show b ∈ [a] from hb)]
        exact ha⟩
    · exact ⟨trivial, hgm, fun b h => (by cases h), fun b hb => by cases hb⟩
  have hall : ∀ r ∈ rows, RowW bl (cells.map (·.1)) (shelves.map (·.1)) rows.length r := fun r h => by
    rw [rlen]
    rcases List.mem_append.mp h with h | h
    · exact hrs r h
    · rw [List.mem_singleton.mp h]
      exact lastW
  have P : Prg bl cells shelves rows := by
    refine ⟨W, by omega, by omega, hall, fun i r hi t ht => ?_⟩
    have hw := hall r (List.mem_of_getElem? hi)
    have hil := (List.getElem?_eq_some_iff.mp hi).1
    by_cases q : i + 1 < rows.length
    · have hled := hw.led
      cases r <;> simp only [PRow.led, List.mem_cons, List.not_mem_nil, or_false] at ht <;> first
        | (rcases ht with rfl | rfl <;> first | exact hled | exact q)
        | (rw [ht]; first | exact q | exact hled)
        | exact ht.elim
    · have : rows[i]? = some last := by
        show (rs ++ [last])[i]? = _
        rw [List.getElem?_append_right (by omega), show i - rs.length = 0 by omega] <;> rfl
      rw [this] at hi
      cases hi
      rcases hlast with rfl | rfl
      · cases ht
      · rw [List.mem_singleton.mp (show t ∈ [g] from ht)]
        omega
  refine ⟨rows, P, pureOf_of (S' := [.lst (rows.map PRow.d)]) ?_ prD_plain⟩
  have e4 := dLcM_of hr hys (size_ok (by rw [List.length_map]; omega))
  rw [List.nil_append, List.length_nil] at e4
  let S1 : Sto := [.lst (rs.map PRow.d)]
  have c1 : cP (pureOf F_law_world) [] [Sc] ([] : Sto) = some (WD, []) := by
    have p : plainL [Sc] = true := by simp [Sc]
    have hw : pureOf F_law_world [Sc] = some WD := hw
    simp only [cP_eq, cpL_plain p, hw]
  have c2 : cP (pureOf F_law_digits) [] [.int rest, .lst .own [.int 2, .int many, .int ((bl.length : Int) + 1), .int (2 ^ 40)]] S1 = some (.lst .own [.int la, .int g, .int bo, .int nu], S1) := by
    simp only [cP_eq, cpL_plain (show plainL [DV.int rest, .lst .own [.int 2, .int many, .int ((bl.length : Int) + 1), .int (2 ^ 40)]] = true from rfl), hd]
  have s1 : dSet 2 (dPrim (cP (pureOf F_law_world) []) (aCons (dVar 0) aNil)) [some Sc, some (.int most), none, none, none, none, none, none, none, none] [] = some (.nx [some Sc, some (.int most), some WD, none, none, none, none, none, none, none] []) := by
    have args : aCons (dVar 0) aNil [some Sc, some (.int most), none, none, none, none, none, none, none, none] ([] : Sto) = some ([Sc], []) := rfl
    rw [v_set, v_prim]
    simp only [args, c1]
    rfl
  have s2 : dSet 3 (dPrim pMax (aCons (dC (.int 1)) (aCons (dPrim pMin (aCons (dBin pSub (dPrim pLen (aCons (dVar 0) aNil)) (dC (.int 5))) (aCons (dBin pAdd (dC (.int 1)) (dVar 1)) aNil))) aNil))) [some Sc, some (.int most), some WD, none, none, none, none, none, none, none] [] = some (.nx ρ3 []) := by
    have l1 : pLen [Sc] ([] : Sto) = some (.int ns.length, []) := by
      show some (DV.int ((ns.map DV.int).length : Nat), _) = _
      rw [List.length_map]
    have m1 : pMin [.int ((ns.length : Int) - 5), .int (1 + (most : Int))] ([] : Sto) = some (.int (if (1 : Int) + most < (ns.length : Int) - 5 then (1 : Int) + most else (ns.length : Int) - 5), []) := rfl
    have m2 : ∀ j : Int, pMax [.int 1, .int j] ([] : Sto) = some (.int (if j > 1 then j else 1), []) := fun j => rfl
    simp only [v_set, v_prim, v_cons, v_nil, v_c, v_bin, Dn.v_var, List.getElem?_cons_succ, List.getElem?_cons_zero, l1, v_subI, v_addI, m1, m2, ← hmany]
    rfl
  have s4 : dAsg (dPrim (cP (pureOf F_law_digits) []) (aCons (dBin pIx (dVar 2) (dC (.int 3))) (aCons (dPrim pLst (aCons (dC (.int 2)) (aCons (dVar 3) (aCons (dBin pAdd (dPrim pLen (aCons (dBin pIx (dVar 2) (dC (.int 0))) aNil)) (dC (.int 1))) (aCons (dBin pPow (dC (.int 2)) (dC (.int 40))) aNil))))) aNil))) (gLstD 4 (gsCons (gSet 5) (gsCons (gSet 6) (gsCons (gSet 7) (gsCons (gSet 8) gsNil))))) [some Sc, some (.int most), some WD, some (.int many), some (.loc 0), none, none, none, none, none] S1 = some (.nx [some Sc, some (.int most), some WD, some (.int many), some (.loc 0), some (.int la), some (.int (g : Nat)), some (.int bo), some (.int nu), none] S1) := by
    have l1 : pLen [B] S1 = some (.int bl.length, S1) := by
      show some (DV.int ((bl.map DV.str).length : Nat), _) = _
      rw [List.length_map]
    have i3 : pIx WD (.int 3) S1 = some (.int rest, S1) := rfl
    have i0 : pIx WD (.int 0) S1 = some (B, S1) := rfl
    have z4 : ([DV.int 2, .int (many : Int), .int ((bl.length : Int) + 1), .int (2 ^ 40)]).length ≤ sizeLine := size_ok (by show 4 ≤ _; omega)
    unfold dAsg
    simp only [v_prim, v_cons, v_nil, v_c, v_bin, Dn.v_var, List.getElem?_cons_succ, List.getElem?_cons_zero, i3, i0, l1, v_addI, pw40, v_pLst]
    rw [if_pos z4]
    simp only [c2]
    rfl
  have s5 : dExpr (dMt pAppend (dVar 4) (aCons (dBin pIx (dPrim pLst (aCons (dPrim pTup (aCons (dC (.str "end")) (aCons (dBin pIx (dBin pAdd (dBin pIx (dVar 2) (dC (.int 0))) (dPrim pLst (aCons (dVar 8) aNil))) (dVar 7)) aNil))) (aCons (dPrim pTup (aCons (dC (.str "go")) (aCons (dVar 6) aNil))) aNil))) (dVar 5)) aNil)) [some Sc, some (.int most), some WD, some (.int many), some (.loc 0), some (.int la), some (.int (g : Nat)), some (.int bo), some (.int nu), none] S1 = some (.nx [some Sc, some (.int most), some WD, some (.int many), some (.loc 0), some (.int la), some (.int (g : Nat)), some (.int bo), some (.int nu), none] [.lst (rows.map PRow.d)]) := by
    have i0 : pIx WD (.int 0) S1 = some (B, S1) := rfl
    have ad : pAdd B (.lst .own [.int nu]) S1 = some (.lst .own (bl.map .str ++ [.int nu]), S1) := by
      show pAdd (.lst .own (bl.map .str)) (.lst .own [.int nu]) S1 = _
      rw [v_addL, if_pos (size_ok (by simp; omega))]
    have z1 : ([DV.int nu]).length ≤ sizeLine := size_ok (by show 1 ≤ _; omega)
    have ap := app_loc (S := S1) (n := 0) (y := last.d) rfl (by rw [List.length_map]; omega)
    have as0 : asL S1 (.loc 0) = some (rs.map PRow.d) := rfl
    have v4 : dVar 4 [some Sc, some (.int most), some WD, some (.int many), some (.loc 0), some (.int la), some (.int (g : Nat)), some (.int bo), some (.int nu), none] S1 = some (.loc 0, S1) := rfl
    have args : aCons (dBin pIx (dPrim pLst (aCons (dPrim pTup (aCons (dC (.str "end")) (aCons (dBin pIx (dBin pAdd (dBin pIx (dVar 2) (dC (.int 0))) (dPrim pLst (aCons (dVar 8) aNil))) (dVar 7)) aNil))) (aCons (dPrim pTup (aCons (dC (.str "go")) (aCons (dVar 6) aNil))) aNil))) (dVar 5)) aNil [some Sc, some (.int most), some WD, some (.int many), some (.loc 0), some (.int la), some (.int (g : Nat)), some (.int bo), some (.int nu), none] S1 = some ([last.d], S1) := by
      have b1 : dBin pIx (dBin pAdd (dBin pIx (dVar 2) (dC (.int 0))) (dPrim pLst (aCons (dVar 8) aNil))) (dVar 7) [some Sc, some (.int most), some WD, some (.int many), some (.loc 0), some (.int la), some (.int (g : Nat)), some (.int bo), some (.int nu), none] S1 = some (a.d, S1) := by
        simp only [v_prim, v_cons, v_nil, v_c, v_bin, Dn.v_var, List.getElem?_cons_succ, List.getElem?_cons_zero, i0, v_pLst]
        rw [if_pos z1]
        simp only [ad, ea]
      have t1 : dPrim pTup (aCons (dC (.str "end")) (aCons (dBin pIx (dBin pAdd (dBin pIx (dVar 2) (dC (.int 0))) (dPrim pLst (aCons (dVar 8) aNil))) (dVar 7)) aNil)) [some Sc, some (.int most), some WD, some (.int many), some (.loc 0), some (.int la), some (.int (g : Nat)), some (.int bo), some (.int nu), none] S1 = some (.tup [.str "end", a.d], S1) := by
        rw [v_prim, v_cons]
        simp only [v_c, v_cons, v_nil, b1]
        rfl
      have t2 : dPrim pLst (aCons (dPrim pTup (aCons (dC (.str "end")) (aCons (dBin pIx (dBin pAdd (dBin pIx (dVar 2) (dC (.int 0))) (dPrim pLst (aCons (dVar 8) aNil))) (dVar 7)) aNil))) (aCons (dPrim pTup (aCons (dC (.str "go")) (aCons (dVar 6) aNil))) aNil)) [some Sc, some (.int most), some WD, some (.int many), some (.loc 0), some (.int la), some (.int (g : Nat)), some (.int bo), some (.int nu), none] S1 = some (.lst .own [.tup [.str "end", a.d], .tup [.str "go", .int g]], S1) := by
        rw [v_prim, v_cons, t1]
        rfl
      rw [v_cons, v_bin, t2]
      simp only [Dn.v_var, List.getElem?_cons_succ, List.getElem?_cons_zero, elast, v_nil]
    rw [v_expr, v_mt]
    simp only [v4, as0, args, ap]
    show some (Out.nx _ [.lst (rs.map PRow.d ++ [last.d])]) = _
    rw [show rows.map PRow.d = rs.map PRow.d ++ [last.d] by simp [rows]]
  unfold F_law_program b_law_program runF
  show (match (dSeq _ _ [some Sc, some (.int most), none, none, none, none, none, none, none, none] [] : Option Out) with | some (.rt d S') => some (d, S') | some (.nx _ S') => some (.non, S') | _ => none) = _
  rw [v_seq, s1]
  simp only
  rw [v_seq, s2]
  simp only
  rw [v_seq, v_set, e4]
  simp only
  rw [v_seq, show ρ3.set 4 (some (.loc 0)) = [some Sc, some (.int most), some WD, some (.int many), some (.loc 0), none, none, none, none, none] from rfl, s4]
  simp only
  rw [v_seq, s5]
  rfl
end Lk34

namespace Lk34
open PySem PySem.Spec PyProof.Rows L2 Dn
theorem inStr {x : Str} {ys : List Str} {S : Sto} : pIn false (.str x) (.tup (ys.map .str)) S = some (.bl (decide (x ∈ ys)), S) := by
  have f : (ys.map DV.str).all flD = true := List.all_eq_true.mpr fun d hd => by
    obtain ⟨y, _, rfl⟩ := List.mem_map.mp hd
    rfl
  show (if flD (.str x) = true ∧ (ys.map DV.str).all flD = true then some (DV.bl (if (false : Bool) then !inD (.str x) (ys.map .str) else inD (.str x) (ys.map .str)), S) else none) = _
  rw [if_pos ⟨rfl, f⟩, inD_strs]
  rfl
theorem in_2 {x a b : Str} {S : Sto} : pIn false (.str x) (.tup [.str a, .str b]) S = some (.bl (decide (x = a) || decide (x = b)), S) := by
  have := inStr (x := x) (ys := [a, b]) (S := S)
  simpa using this
theorem in_3 {x a b c : Str} {S : Sto} : pIn false (.str x) (.tup [.str a, .str b, .str c]) S = some (.bl (decide (x = a) || (decide (x = b) || decide (x = c))), S) := by
  have := inStr (x := x) (ys := [a, b, c]) (S := S)
  simpa using this
theorem in_5 {x a b c d e : Str} {S : Sto} : pIn false (.str x) (.tup [.str a, .str b, .str c, .str d, .str e]) S = some (.bl (decide (x = a) || (decide (x = b) || (decide (x = c) || (decide (x = d) || decide (x = e))))), S) := by
  have := inStr (x := x) (ys := [a, b, c, d, e]) (S := S)
  simpa using this
theorem exits_eq {rows : List PRow} {i : Nat} {r : PRow} (hr : rows[i]? = some r) : pureOf F_law_exits [.tup (rows.map PRow.d), .int i] = some (.lst .own ((r.led i).map fun (n : Nat) => .int n)) := by
  have hx : ∀ {S : Sto}, pIx (.tup (rows.map PRow.d)) (.int i) S = some (r.d, S) := fun {S} => ix_tup (atD_nat (by rw [List.getElem?_map, hr] <;> rfl))
  refine pureOf_of (S' := []) ?_ (by
    rw [plain_own]
    exact plainL_iff.mpr fun d h => by
      obtain ⟨n, _, rfl⟩ := List.mem_map.mp h
      rfl)
  unfold F_law_exits b_law_exits runF
  generalize DV.tup (rows.map PRow.d) = T at hx
  cases r <;> simp only [PRow.d] at hx <;> simp [hx, PRow.led]
/-! ### gone from a row -/
theorem setI_int {S : Sto} {n : Nat} {ks : List Key} {vs : List DV} {i : Int} {y : DV} (hS : S[n]? = some (.dik ks vs)) (hz : ks.length < 16777216) : setI (.loc n) (.int i) y S = some (S.set n (.dik (putKs ks (.inl i)) (putVs ks vs (.inl i) y))) := by
  unfold setI
  simp only [hS, keyD]
  rw [if_pos (by rw [size_eq]; exact hz)]
abbrev snK (sn : List Nat) : List Key := sn.map fun (n : Nat) => .inl (n : Int)
abbrev snV (sn : List Nat) : List DV := sn.map fun _ => .bl true
def sk (sn : List Nat) : Cell := .dik (snK sn) (snV sn)
theorem hasK_sn {sn : List Nat} {x : Nat} : hasK (snK sn) (.inl (x : Int)) = decide (x ∈ sn) := by
  unfold hasK
  rw [List.any_map]
  induction sn with
  | nil => rfl
  | cons y K ih =>
    rw [List.any_cons, ih]
    by_cases q : y = x
    · subst q
      simp
    · have q2 : ¬ x = y := fun e => q e.symm
      have q3 : ¬ (y : Int) = (x : Int) := fun e => q (by omega)
      simp [q2, q3]
theorem set_sk {S : Sto} {n : Nat} {sn : List Nat} {x : Nat} (h : S[n]? = some (sk sn)) (hx : x ∉ sn) (hz : sn.length < 100000) : setI (.loc n) (.int x) (.bl true) S = some (S.set n (sk (sn ++ [x]))) := by
  have := setI_int (i := x) (y := .bl true) h (by rw [List.length_map]; omega)
  unfold putKs putVs at this
  rw [hasK_sn, decide_eq_false hx] at this
  rw [this]
  simp [sk]
theorem lk_sn : ∀ {sn : List Nat} {x : Nat}, (lkD (snK sn) (snV sn) (.inl (x : Int))).isSome = decide (x ∈ sn)
  | [], x => rfl
  | y :: K, x => by
    show (if (Sum.inl (y : Int) : Key) = Sum.inl (x : Int) then some (DV.bl true) else lkD (snK K) (snV K) (.inl (x : Int))).isSome = _
    by_cases q : y = x
    · subst q
      simp
    · have q2 : ¬ x = y := fun e => q e.symm
      rw [if_neg fun e => q (by have := Sum.inl.inj e; omega), lk_sn]
      simp [q2]
theorem in_sk {S : Sto} {n : Nat} {sn : List Nat} (h : S[n]? = some (sk sn)) (x : Nat) (neg : Bool) : pIn neg (.int x) (.loc n) S = some (.bl (if neg then !decide (x ∈ sn) else decide (x ∈ sn)), S) := by
  have h1 : asL S (.loc n) = none := by
    unfold asL
    simp only [h]
    rfl
  have h2 : getD S (.loc n) (.int x) = some (lkD (snK sn) (snV sn) (.inl (x : Int))) := by
    unfold getD asK keyD
    simp only [h]
    rfl
  show (match asL S (.loc n) with | some ds => _ | none => (match getD S (.loc n) (.int x) with | some o => some (DV.bl (if neg then !o.isSome else o.isSome), S) | none => none)) = _
  rw [h1]
  simp only [h2, lk_sn]
end Lk34

namespace Lk34
open PySem PySem.Spec PyProof.Rows L2 Dn
/-! ### how a row touches a thing -/
def tch (nm : Str) : PRow → Str
  | .load _ c => if c = nm then "load" else ""
  | .store c _ => if c = nm then "store" else ""
  | .take _ s _ => if s = nm then "take" else ""
  | .lay s _ _ => if s = nm then "lay" else ""
  | _ => ""
def beh (d : Str) (seen : Bool) : Option Bool := if d = "store" ∧ seen = false then none else some (seen || (decide (d = "load") || decide (d = "take")))
def optB : Option Bool → DV
  | none => .non
  | some b => .bl b
theorem v_tabIn {neg : Bool} {kvs : List (Str × He.Dv)} {f : DE} {ρ : List (Option DV)} {S : Sto} : dTabIn neg kvs f ρ S = (match f ρ S with
  | some (.str z, S1) => some (.bl (if neg then !(tabF kvs z).isSome else (tabF kvs z).isSome), S1)
  | _ => none) := (rfl)
theorem v_tabIx {kvs : List (Str × He.Dv)} {f : DE} {ρ : List (Option DV)} {S : Sto} : dTabIx kvs f ρ S = (match f ρ S with
  | some (.str z, S1) => (match tabF kvs z with
    | some v => some (dvD v, S1)
    | none => none)
  | _ => none) := (rfl)
theorem touch_eq (r : PRow) (nm : Str) : pureOf F_touch [r.d, .str nm] = some (.str (tch nm r)) := by
  refine pureOf_of (S' := []) ?_ rfl
  have y1 : tabF t_TOUCHES "load" = some (.int 2) := by rfl
  have y2 : tabF t_TOUCHES "store" = some (.int 1) := by rfl
  have y3 : tabF t_TOUCHES "take" = some (.int 2) := by rfl
  have y4 : tabF t_TOUCHES "lay" = some (.int 1) := by rfl
  have n1 : tabF t_TOUCHES "say" = none := by rfl
  have n2 : tabF t_TOUCHES "copy" = none := by rfl
  have n3 : tabF t_TOUCHES "op" = none := by rfl
  have n4 : tabF t_TOUCHES "hear" = none := by rfl
  have n5 : tabF t_TOUCHES "if" = none := by rfl
  have n6 : tabF t_TOUCHES "go" = none := by rfl
  have n7 : tabF t_TOUCHES "end" = none := by rfl
  unfold F_touch b_touch runF
  cases r with
  | load x c =>
    by_cases q : c = nm
    · subst q
      simp [PRow.d, tch, v_tabIn, v_tabIx, y1, dvD]
    · simp [PRow.d, tch, v_tabIn, v_tabIx, y1, dvD, q]
  | store c a =>
    by_cases q : c = nm
    · subst q
      simp [PRow.d, tch, v_tabIn, v_tabIx, y2, dvD]
    · simp [PRow.d, tch, v_tabIn, v_tabIx, y2, dvD, q]
  | take x s a =>
    by_cases q : s = nm
    · subst q
      simp [PRow.d, tch, v_tabIn, v_tabIx, y3, dvD]
    · simp [PRow.d, tch, v_tabIn, v_tabIx, y3, dvD, q]
  | lay s a b =>
    by_cases q : s = nm
    · subst q
      simp [PRow.d, tch, v_tabIn, v_tabIx, y4, dvD]
    · simp [PRow.d, tch, v_tabIn, v_tabIx, y4, dvD, q]
  | _ => simp [PRow.d, tch, v_tabIn, v_tabIx, n1, n2, n3, n4, n5, n6, n7]
theorem behind_eq (d : Str) (s : Bool) : pureOf F_behind [.str d, .bl s] = some (optB (beh d s)) := by
  refine pureOf_of (S' := []) ?_ (by unfold beh; split <;> rfl)
  unfold F_behind b_behind runF beh
  cases s with
  | false =>
    by_cases q : d = "store"
    · subst q
      simp [optB]
    · by_cases q2 : d = "load"
      · subst q2
        simp [optB]
      · simp [optB, q, q2]
  | true =>
    by_cases q : d = "store"
    · subst q
      simp [optB]
    · simp [optB, q]
/-! ### what may be spoilt -/
def mayL (nm : Str) : List (Str × Int × Bool) → Bool
  | [] => false
  | c :: cs => if c.1 = nm then !c.2.2 else mayL nm cs
abbrev mayB : DS := dIfS (dBin (pEq false) (dBin pIx (dVar 2) (dC (.int 0))) (dVar 1)) (dRet (dNot (dBin pIx (dVar 2) (dC (.int 2))))) dNext
theorem may_loop {P : DV} {nm : Str} : ∀ (cs : List (Str × Int × Bool)) (x : Option DV), forL (gSet 2) mayB (cs.map tD) [some P, some (.str nm), x] [] = some (.rt (.bl (mayL nm cs)) []) ∨
    (mayL nm cs = false ∧ ∃ ρ, forL (gSet 2) mayB (cs.map tD) [some P, some (.str nm), x] [] = some (.nx ρ []))
  | [], x => .inr ⟨rfl, _, rfl⟩
  | c :: cs, x => by
    have ih := may_loop (P := P) (nm := nm) cs (some (tD c))
    have h0 : dBin (pEq false) (dBin pIx (dVar 2) (dC (.int 0))) (dVar 1) [some P, some (.str nm), some (tD c)] [] = some (.bl (decide (c.1 = nm)), []) := rfl
    have h2 : dNot (dBin pIx (dVar 2) (dC (.int 2))) [some P, some (.str nm), some (tD c)] [] = some (.bl (!c.2.2), []) := rfl
    rw [List.map_cons]
    unfold forL mayL
    simp only [v_gset, List.set_cons_succ, List.set_cons_zero]
    by_cases q : c.1 = nm
    · have hb : mayB [some P, some (.str nm), some (tD c)] [] = some (.rt (.bl (!c.2.2)) []) := by
        rw [decide_eq_true q] at h0
        show dIfS _ _ _ _ _ = _
        rw [v_ifS, h0]
        simp only [v_ret, h2]
      rw [if_pos q]
      simp only [hb, true_or]
    · have hb : mayB [some P, some (.str nm), some (tD c)] [] = some (.nx [some P, some (.str nm), some (tD c)] []) := by
        rw [decide_eq_false q] at h0
        show dIfS _ _ _ _ _ = _
        rw [v_ifS, h0]
        simp only [v_next]
      rw [if_neg q]
      simp only [hb]
      exact ih
theorem may_eq (cells shelves : List (Str × Int × Bool)) (R : DV) (nm : Str) (hz : cells.length + shelves.length < 1000) : pureOf F_may_spoil [.tup [.tup (cells.map tD), .tup (shelves.map tD), R], .str nm] = some (.bl (mayL nm (cells ++ shelves))) := by
  refine pureOf_of (S' := []) ?_ rfl
  have h := may_loop (P := .tup [.tup (cells.map tD), .tup (shelves.map tD), R]) (nm := nm) (cells ++ shelves) none
  rw [List.map_append] at h
  have hi : iSeq (dBin pAdd (dBin pIx (dVar 0) (dC (.int 0))) (dBin pIx (dVar 0) (dC (.int 1)))) [some (.tup [.tup (cells.map tD), .tup (shelves.map tD), R]), some (.str nm), none] [] = some (cells.map tD ++ shelves.map tD, []) := by
    have e0 : dBin pIx (dVar 0) (dC (.int 0)) [some (.tup [.tup (cells.map tD), .tup (shelves.map tD), R]), some (.str nm), none] ([] : Sto) = some (.tup (cells.map tD), []) := rfl
    have e1 : dBin pIx (dVar 0) (dC (.int 1)) [some (.tup [.tup (cells.map tD), .tup (shelves.map tD), R]), some (.str nm), none] ([] : Sto) = some (.tup (shelves.map tD), []) := rfl
    rw [iSeq_eq, v_bin, e0]
    simp only [e1]
    rw [v_addT, if_pos (by simp only [List.length_map, size_eq]; omega)]
  unfold F_may_spoil b_may_spoil runF
  show (match (dSeq _ _ [some _, some _, none] [] : Option Out) with | some (.rt d S') => some (d, S') | some (.nx _ S') => some (.non, S') | _ => none) = _
  rw [v_seq, v_for, hi]
  simp only
  rcases h with h | ⟨h1, ρ, h⟩
  · rw [h]
  · rw [h, h1]
    rfl
/-! ### a cutting -/
abbrev kpD (k : Nat × DV) : DV := .tup [.int k.1, k.2]
abbrev cdD (b : DV) (ks : List (Nat × DV)) : DV := .tup [b, .tup (ks.map kpD)]
theorem cdD_plain {b : DV} {ks : List (Nat × DV)} (hb : plain b = true) (h : ∀ k ∈ ks, plain k.2 = true) : plain (cdD b ks) = true := by
  have : plainL (ks.map kpD) = true := plainL_iff.mpr fun d hd => by
    obtain ⟨k, hk, rfl⟩ := List.mem_map.mp hd
    simp [h k hk]
  simp [hb, this]
theorem places_eq (b : DV) (ks : List (Nat × DV)) (hz : ks.length < 1000) : pureOf F_place_rows [cdD b ks] = some (.lst .own ((0 :: ks.map (·.1)).map fun (n : Nat) => .int n)) := by
  refine pureOf_of (S' := []) ?_ (by rw [plain_own]; exact plainL_iff.mpr fun d hd => by obtain ⟨n, _, rfl⟩ := List.mem_map.mp hd; rfl)
  have hl : lcL (gTupD 2 (gsCons (gSet 1) (gsCons (gSet 2) gsNil))) (dC (.bl true)) (dVar 1) [some (cdD b ks), none, none] (ks.map kpD) [] = some (ks.map fun k => DV.int (k.1 : Nat), []) := by
    induction ks with
    | nil => rfl
    | cons k ks ih => 
      clear ih
      have go : ∀ (P : Option DV) (ks : List (Nat × DV)), lcL (gTupD 2 (gsCons (gSet 1) (gsCons (gSet 2) gsNil))) (dC (.bl true)) (dVar 1) [P, none, none] (ks.map kpD) [] = some (ks.map fun k => DV.int (k.1 : Nat), []) := by
        intro P ks
        induction ks with
        | nil => rfl
        | cons k ks ih =>
          rw [List.map_cons]
          unfold lcL
          have g1 : gTupD 2 (gsCons (gSet 1) (gsCons (gSet 2) gsNil)) (kpD k) [P, none, none] [] = some ([P, some (.int (k.1 : Nat)), some k.2], []) := rfl
          have v1 : dVar 1 [P, some (.int (k.1 : Nat)), some k.2] ([] : Sto) = some (.int (k.1 : Nat), []) := rfl
          simp only [g1, v_c, v1, ih, List.map_cons]
      exact go _ _
  have hi : iSeq (dBin pIx (dVar 0) (dC (.int 1))) [some (cdD b ks), none, none] [] = some (ks.map kpD, []) := rfl
  have e := dLc_of (vs := [1, 2]) hi (by rw [show (dwipe [some (cdD b ks), none, none] [1, 2]) = [some (cdD b ks), none, none] from rfl]; exact hl) (size_ok (by rw [List.length_map]; omega))
  unfold F_place_rows b_place_rows runF
  show (match (dRet _ [some (cdD b ks), none, none] [] : Option Out) with | some (.rt d S') => some (d, S') | some (.nx _ S') => some (.non, S') | _ => none) = _
  have e0 : dPrim pLst (aCons (dC (.int 0)) aNil) [some (cdD b ks), none, none] ([] : Sto) = some (.lst .own [.int 0], []) := rfl
  rw [v_ret, v_bin, e0]
  simp only [e]
  rw [v_addL (by decide) (by decide), if_pos (by simp only [List.length_map, size_eq, List.length_cons, List.length_nil]; omega)]
  simp [List.map_map]
end Lk34

namespace Lk34
open PySem PySem.Spec PyProof.Rows L2 Dn
/-! ### a search: who came from where, who is left -/
abbrev Nd : Type := Nat × Bool
abbrev Cm : Type := List (Nd × Option Nd)
def push (p : Nd) (s : Cm × List Nd) (t : Nd) : Cm × List Nd := if t ∈ s.1.map (·.1) then s else (s.1 ++ [(t, some p)], s.2 ++ [t])
structure Srch (src : List Nd) (succ : Nd → List Nd) (test : Nd → Bool) (C : Cm) (q : List Nd) : Prop where
  nd : (C.map (·.1)).Nodup
  ini : ∀ s ∈ src, s ∈ C.map (·.1)
  root : ∀ k, (k, none) ∈ C → k ∈ src
  par : ∀ (i : Nat) (k p : Nd), C[i]? = some (k, some p) → k ∈ succ p ∧ ∃ (j : Nat) (v : Option Nd), j < i ∧ C[j]? = some (p, v)
  qs : ∀ k ∈ q, k ∈ C.map (·.1)
  done : ∀ k ∈ C.map (·.1), k ∉ q → test k = false ∧ ∀ t ∈ succ k, t ∈ C.map (·.1)
section
variable {src : List Nd} {succ : Nd → List Nd} {test : Nd → Bool}
theorem push_keys {p : Nd} {s : Cm × List Nd} {t x : Nd} : x ∈ (push p s t).1.map (·.1) ↔ x ∈ s.1.map (·.1) ∨ x = t := by
  unfold push
  split
  · rename_i h
    exact ⟨.inl, fun z => z.elim id fun e => by rw [e]; exact h⟩
  · rw [List.map_append, List.mem_append]
    simp
theorem push_all {p : Nd} : ∀ {ts : List Nd} {s : Cm × List Nd} {x : Nd}, x ∈ (ts.foldl (push p) s).1.map (·.1) ↔ x ∈ s.1.map (·.1) ∨ x ∈ ts
  | [], s, x => by simp
  | t :: ts, s, x => by
    rw [List.foldl_cons, push_all, push_keys, List.mem_cons]
    constructor
    · rintro ((h | h) | h)
      · exact .inl h
      · exact .inr (.inl h)
      · exact .inr (.inr h)
    · rintro (h | h | h)
      · exact .inl (.inl h)
      · exact .inl (.inr h)
      · exact .inr h
/-- what holds along the pushes from p -/
structure Push (src : List Nd) (succ : Nd → List Nd) (p : Nd) (C0 : Cm) (q0 : List Nd) (C : Cm) (q : List Nd) : Prop where
  nd : (C.map (·.1)).Nodup
  root : ∀ k, (k, none) ∈ C → k ∈ src
  par : ∀ (i : Nat) (k p : Nd), C[i]? = some (k, some p) → k ∈ succ p ∧ ∃ (j : Nat) (v : Option Nd), j < i ∧ C[j]? = some (p, v)
  at_ : p ∈ C.map (·.1)
  old : ∀ x ∈ C0.map (·.1), x ∈ C.map (·.1)
  qk : ∀ k ∈ q, k ∈ C.map (·.1)
  qo : ∀ k ∈ q0, k ∈ q
  new : ∀ x ∈ C.map (·.1), x ∈ C0.map (·.1) ∨ x ∈ q
  len : q.length + C0.length = q0.length + C.length
theorem push_ok {p t : Nd} {C0 C : Cm} {q0 q : List Nd} (A : Push src succ p C0 q0 C q) (h : t ∈ succ p) : Push src succ p C0 q0 (push p (C, q) t).1 (push p (C, q) t).2 := by
  unfold push
  dsimp only
  by_cases hc : t ∈ C.map (·.1)
  · rw [if_pos hc]
    exact A
  · rw [if_neg hc]
    refine ⟨?_, fun k hk => ?_, fun i k p' hi => ?_, ?_, fun x hx => ?_, fun k hk => ?_, fun k hk => ?_, fun x hx => ?_, ?_⟩
    · rw [List.map_append]
      refine List.nodup_append.mpr ⟨A.nd, List.pairwise_singleton _ _, fun a ha b hb e => hc ?_⟩
      rw [List.mem_singleton.mp hb] at e
      rw [e] at ha
      exact ha
    · rcases List.mem_append.mp hk with z | z
      · exact A.root k z
      · cases List.mem_singleton.mp z
    · by_cases hl : i < C.length
      · rw [List.getElem?_append_left hl] at hi
        obtain ⟨h1, j, v, h2, h3⟩ := A.par i k p' hi
        exact ⟨h1, j, v, h2, by rw [List.getElem?_append_left (by omega)]; exact h3⟩
      · have e : i = C.length := by
          have := (List.getElem?_eq_some_iff.mp hi).1
          rw [List.length_append, List.length_singleton] at this
          omega
        subst e
        rw [get_len] at hi
        cases hi
        obtain ⟨e0, he0, he1⟩ := List.mem_map.mp A.at_
        obtain ⟨j, hj⟩ := List.getElem?_of_mem he0
        have hjl := (List.getElem?_eq_some_iff.mp hj).1
        refine ⟨h, j, e0.2, hjl, ?_⟩
        rw [List.getElem?_append_left hjl, hj, ← he1]
    · rw [List.map_append]
      exact List.mem_append_left _ A.at_
    · rw [List.map_append]
      exact List.mem_append_left _ (A.old x hx)
    · rw [List.map_append]
      rcases List.mem_append.mp hk with z | z
      · exact List.mem_append_left _ (A.qk k z)
      · exact List.mem_append_right _ z
    · exact List.mem_append_left _ (A.qo k hk)
    · rw [List.map_append] at hx
      rcases List.mem_append.mp hx with z | z
      · rcases A.new x z with y | y
        · exact .inl y
        · exact .inr (List.mem_append_left _ y)
      · exact .inr (List.mem_append_right _ z)
    · have := A.len
      simp only [List.length_append, List.length_singleton]
      omega
theorem push_fold {p : Nd} {C0 : Cm} {q0 : List Nd} : ∀ {ts : List Nd} {C : Cm} {q : List Nd}, Push src succ p C0 q0 C q → (∀ t ∈ ts, t ∈ succ p) → Push src succ p C0 q0 (ts.foldl (push p) (C, q)).1 (ts.foldl (push p) (C, q)).2
  | [], C, q, A, _ => A
  | t :: ts, C, q, A, h => by
    have B := push_ok A (h t List.mem_cons_self)
    rw [List.foldl_cons]
    exact push_fold (C := (push p (C, q) t).1) (q := (push p (C, q) t).2) B fun x hx => h x (List.mem_cons_of_mem _ hx)
/-- one is done -/
theorem srch_step {C : Cm} {k : Nd} {q : List Nd} (A : Srch src succ test C (k :: q)) (ht : test k = false) :
    Srch src succ test ((succ k).foldl (push k) (C, q)).1 ((succ k).foldl (push k) (C, q)).2 ∧ ((succ k).foldl (push k) (C, q)).2.length + C.length = q.length + ((succ k).foldl (push k) (C, q)).1.length := by
  have hk : k ∈ C.map (·.1) := A.qs k List.mem_cons_self
  have P : Push src succ k C q C q := ⟨A.nd, A.root, A.par, hk, fun x hx => hx, fun x hx => A.qs x (List.mem_cons_of_mem _ hx), fun x hx => hx, fun x hx => .inl hx, rfl⟩
  have B := push_fold (ts := succ k) P fun t ht => ht
  refine ⟨⟨B.nd, fun s hs => B.old s (A.ini s hs), B.root, B.par, B.qk, fun x hx hq => ?_⟩, B.len⟩
  rcases B.new x hx with z | z
  · by_cases e : x = k
    · subst e
      exact ⟨ht, fun t h => push_all.mpr (.inr h)⟩
    · obtain ⟨h1, h2⟩ := A.done x z fun y => by
        rcases List.mem_cons.mp y with w | w
        · exact e w
        · exact hq (B.qo x w)
      exact ⟨h1, fun t h => B.old t (h2 t h)⟩
  · exact absurd z hq
/-- the way back -/
inductive Back (C : Cm) : Nd → List Nd → Prop
  | root {k : Nd} (h : (k, none) ∈ C) : Back C k [k]
  | step {k p : Nd} {l : List Nd} (h : (k, some p) ∈ C) (hl : Back C p l) : Back C k (k :: l)
inductive BkOk (src : List Nd) (succ : Nd → List Nd) : Nd → List Nd → Prop
  | root {k : Nd} (h : k ∈ src) : BkOk src succ k [k]
  | step {k p : Nd} {l : List Nd} (h : k ∈ succ p) (hl : BkOk src succ p l) : BkOk src succ k (k :: l)
theorem back_of {C : Cm} {q : List Nd} (A : Srch src succ test C q) : ∀ (n i : Nat) (k : Nd) (v : Option Nd), i < n → C[i]? = some (k, v) → ∃ l, Back C k l ∧ BkOk src succ k l ∧ l.length ≤ i + 1
  | 0, i, k, v, h, _ => by omega
  | n + 1, i, k, v, h, hi => by
    cases v with
    | none => exact ⟨[k], .root (List.mem_of_getElem? hi), .root (A.root k (List.mem_of_getElem? hi)), by simp⟩
    | some p =>
      obtain ⟨h1, j, v', h2, h3⟩ := A.par i k p hi
      obtain ⟨l, b1, b2, b3⟩ := back_of A n j p v' (by omega) h3
      exact ⟨k :: l, .step (List.mem_of_getElem? hi) b1, .step h1 b2, by rw [List.length_cons]; omega⟩
theorem back_key {C : Cm} {q : List Nd} (A : Srch src succ test C q) {k : Nd} (h : k ∈ C.map (·.1)) : ∃ l, Back C k l ∧ BkOk src succ k l ∧ l.length ≤ C.length := by
  obtain ⟨e, he, rfl⟩ := List.mem_map.mp h
  obtain ⟨i, hi⟩ := List.getElem?_of_mem he
  have hl := (List.getElem?_eq_some_iff.mp hi).1
  obtain ⟨l, b1, b2, b3⟩ := back_of A (i + 1) i e.1 e.2 (by omega) hi
  exact ⟨l, b1, b2, by omega⟩
/-- who is reached -/
inductive Rch (src : List Nd) (succ : Nd → List Nd) : Nd → Prop
  | here {k : Nd} (h : k ∈ src) : Rch src succ k
  | on {k t : Nd} (h : Rch src succ k) (ht : t ∈ succ k) : Rch src succ t
theorem srch_all {C : Cm} (A : Srch src succ test C []) {k : Nd} (h : Rch src succ k) : k ∈ C.map (·.1) ∧ test k = false := by
  induction h with
  | here h => exact ⟨A.ini _ h, (A.done _ (A.ini _ h) (List.not_mem_nil)).1⟩
  | on _ ht ih =>
    have := (A.done _ ih.1 List.not_mem_nil).2 _ ht
    exact ⟨this, (A.done _ this List.not_mem_nil).1⟩
end
/-! ### in the store -/
def ndK (k : Nd) : Int × Bool := ((k.1 : Int), k.2)
def ndD (k : Nd) : DV := .tup [.int k.1, .bl k.2]
def optN : Option Nd → DV
  | none => .non
  | some k => ndD k
def cmC (C : Cm) : Cell := .dlf ((C.map (·.1)).map ndK) (C.map fun e => optN e.2)
theorem ndK_inj {j k : Nd} (h : ndK j = ndK k) : j = k := by
  obtain ⟨i, b⟩ := j
  obtain ⟨i', b'⟩ := k
  unfold ndK at h
  simp only [Prod.mk.injEq] at h
  obtain ⟨h1, h2⟩ := h
  rw [h2, show i = i' by omega]
theorem lfKey_nd (k : Nd) : lfKey (ndD k) = some (ndK k) := rfl
theorem hasK_nd {ks : List Nd} {k : Nd} : hasK (ks.map ndK) (ndK k) = decide (k ∈ ks) := by
  unfold hasK
  by_cases q : k ∈ ks
  · rw [decide_eq_true q, List.any_eq_true]
    exact ⟨ndK k, List.mem_map.mpr ⟨k, q, rfl⟩, decide_eq_true rfl⟩
  · rw [decide_eq_false q, List.any_eq_false]
    intro j hj
    obtain ⟨x, hx, rfl⟩ := List.mem_map.mp hj
    simp only [decide_eq_true_eq]
    exact fun e => q (by rw [← ndK_inj e]; exact hx)
theorem lk_nd : ∀ {C : Cm} {k : Nd} {v : Option Nd}, (C.map (·.1)).Nodup → (k, v) ∈ C → lkD ((C.map (·.1)).map ndK) (C.map fun e => optN e.2) (ndK k) = some (optN v)
  | [], k, v, _, h => nomatch h
  | e :: C, k, v, hn, h => by
    rw [List.map_cons, List.nodup_cons] at hn
    rw [List.map_cons, List.map_cons, List.map_cons]
    unfold lkD
    by_cases q : e.1 = k
    · rw [if_pos (by rw [q])]
      rcases List.mem_cons.mp h with z | z
      · rw [← z]
      · exact absurd (List.mem_map.mpr ⟨_, z, rfl⟩) (by rw [← q] at *; exact hn.1)
    · rw [if_neg fun z => q (ndK_inj z)]
      rcases List.mem_cons.mp h with z | z
      · exact absurd (by rw [← z]) q
      · exact lk_nd hn.2 z
theorem in_cm {S : Sto} {n : Nat} {C : Cm} (h : S[n]? = some (cmC C)) (k : Nd) (neg : Bool) : pLfIn neg (ndD k) (.loc n) S = some (.bl (if neg then !decide (k ∈ C.map (·.1)) else decide (k ∈ C.map (·.1))), S) := by
  unfold pLfIn lfOf
  simp only [h, cmC, lfKey_nd, hasK_nd]
theorem ix_cm {S : Sto} {n : Nat} {C : Cm} (h : S[n]? = some (cmC C)) {k : Nd} {v : Option Nd} (hn : (C.map (·.1)).Nodup) (hk : (k, v) ∈ C) : pLfIx (.loc n) (ndD k) S = some (optN v, S) := by
  unfold pLfIx lfOf
  simp only [h, cmC, lfKey_nd, lk_nd hn hk]
theorem set_cm {S : Sto} {n : Nat} {C : Cm} (h : S[n]? = some (cmC C)) {k : Nd} {v : Option Nd} (hk : k ∉ C.map (·.1)) (hz : C.length < 100000) : lfSetI (.loc n) (ndD k) (optN v) S = some (S.set n (cmC (C ++ [(k, v)]))) := by
  unfold lfSetI
  simp only [h, cmC, lfKey_nd]
  rw [if_pos (by rw [List.length_map, List.length_map, size_eq]; omega)]
  unfold putKs putVs
  rw [hasK_nd, decide_eq_false hk]
  simp [List.map_append]
end Lk34

namespace Lk34
open PySem PySem.Spec PyProof.Rows L2 Dn
def iN (l : List Nat) : List DV := l.map fun (n : Nat) => .int n
theorem iN_app {a b : List Nat} : iN (a ++ b) = iN a ++ iN b := List.map_append
theorem iN_len {a : List Nat} : (iN a).length = a.length := List.length_map ..
/-! ### led_by -/
abbrev lbC : DE := dBin (pIs true) (dVar 1) (dC .non)
abbrev lbB : DS := dSeq (dExpr (dMt pAppend (dVar 2) (aCons (dBin pIx (dVar 1) (dC (.int 0))) aNil))) (dSet 1 (dBin pLfIx (dVar 0) (dVar 1)))
theorem lb_turn {n m : Nat} {S : Sto} {C : Cm} {k : Nd} {v : Option Nd} {acc : List Nat} (hn : (C.map (·.1)).Nodup) (hk : (k, v) ∈ C) (h1 : S[n]? = some (cmC C)) (h2 : S[m]? = some (.lst (iN acc))) (ne : n ≠ m) (hz : acc.length < 100000) :
    lbC [some (.loc n), some (ndD k), some (.loc m)] S = some (.bl true, S) ∧
    lbB [some (.loc n), some (ndD k), some (.loc m)] S = some (.nx [some (.loc n), some (optN v), some (.loc m)] (S.set m (.lst (iN (acc ++ [k.1]))))) := by
  refine ⟨rfl, ?_⟩
  have ap := app_loc (y := .int (k.1 : Nat)) h2 (by rw [iN_len]; omega)
  have as := asL_loc h2
  have h3 : (S.set m (.lst (iN acc ++ [.int (k.1 : Nat)])))[n]? = some (cmC C) := by
    rw [List.getElem?_set_ne (fun e => ne e.symm)]
    exact h1
  have ix := ix_cm h3 hn hk
  have v2 : dVar 2 [some (.loc n), some (ndD k), some (.loc m)] S = some (.loc m, S) := rfl
  have a0 : aCons (dBin pIx (dVar 1) (dC (.int 0))) aNil [some (.loc n), some (ndD k), some (.loc m)] S = some ([.int (k.1 : Nat)], S) := rfl
  have e1 : dExpr (dMt pAppend (dVar 2) (aCons (dBin pIx (dVar 1) (dC (.int 0))) aNil)) [some (.loc n), some (ndD k), some (.loc m)] S = some (.nx [some (.loc n), some (ndD k), some (.loc m)] (S.set m (.lst (iN acc ++ [.int (k.1 : Nat)])))) := by
    rw [v_expr, v_mt, v2]
    simp only [as, a0, ap]
  have e2 : dBin pLfIx (dVar 0) (dVar 1) [some (.loc n), some (ndD k), some (.loc m)] (S.set m (.lst (iN acc ++ [.int (k.1 : Nat)]))) = some (optN v, S.set m (.lst (iN acc ++ [.int (k.1 : Nat)]))) := ix
  show dSeq _ _ _ _ = _
  rw [v_seq, e1]
  simp only
  rw [v_set, e2, iN_app]
  rfl
theorem lb_loop {n m : Nat} {C : Cm} (hn : (C.map (·.1)).Nodup) (ne : n ≠ m) {k : Nd} {l : List Nd} (B : Back C k l) : ∀ (f : Nat) (acc : List Nat) (S : Sto), S[n]? = some (cmC C) → S[m]? = some (.lst (iN acc)) → acc.length + l.length < 10000 → l.length < f →
    whileL lbC lbB f [some (.loc n), some (ndD k), some (.loc m)] S = some (.nx [some (.loc n), some .non, some (.loc m)] (S.set m (.lst (iN (acc ++ l.map (·.1)))))) := by
  induction B with
  | @root k h =>
    intro f acc S h1 h2 hz hf
    obtain ⟨f, rfl⟩ : ∃ g, f = g + 2 := ⟨f - 2, by rw [List.length_singleton] at hf; omega⟩
    obtain ⟨t1, t2⟩ := lb_turn hn h h1 h2 ne (by omega)
    have t3 : ∀ T : Sto, lbC [some (.loc n), some .non, some (.loc m)] T = some (.bl false, T) := fun _ => rfl
    unfold whileL
    rw [t1]
    simp only
    rw [t2]
    simp only
    unfold whileL
    rw [show optN none = DV.non from rfl, t3]
    rfl
  | @step k p l h hl ih =>
    intro f acc S h1 h2 hz hf
    rw [List.length_cons] at hz hf
    obtain ⟨f, rfl⟩ : ∃ g, f = g + 1 := ⟨f - 1, by omega⟩
    obtain ⟨t1, t2⟩ := lb_turn hn h h1 h2 ne (by omega)
    have hlt := get_lt h2
    have i := ih f (acc ++ [k.1]) (S.set m (.lst (iN (acc ++ [k.1])))) (by rw [List.getElem?_set_ne (fun e => ne e.symm)]; exact h1) (List.getElem?_set_self hlt) (by simp; omega) (by omega)
    conv => lhs; unfold whileL
    rw [t1]
    simp only
    rw [t2]
    simp only
    rw [show optN (some p) = ndD p from rfl, i, List.set_set, List.map_cons, List.append_assoc]
    rfl
theorem led_by_eq {S : Sto} {n : Nat} {C : Cm} (hn : (C.map (·.1)).Nodup) (h1 : S[n]? = some (cmC C)) {k : Nd} {l : List Nd} (B : Back C k l) (hz : l.length < 5000) :
    F_led_by [.loc n, ndD k] S = some (.loc S.length, S ++ [.lst (iN ((l.map (·.1)).reverse))]) := by
  have hlt := get_lt h1
  have hT : (S ++ [Cell.lst []])[S.length]? = some (.lst (iN [])) := get_len _ _
  have hn1 : (S ++ [Cell.lst []])[n]? = some (cmC C) := by
    rw [List.getElem?_append_left hlt]
    exact h1
  have el := lb_loop hn (by omega : n ≠ S.length) B 100000 [] (S ++ [.lst []]) hn1 hT (by simp; omega) (by omega)
  rw [List.nil_append] at el
  have es : ∀ y x : Cell, (S ++ [y]).set S.length x = S ++ [x] := fun y x => by
    rw [show S.length = S.length + 0 from rfl, n_set]
    rfl
  rw [es] at el
  have s1 : dSet 2 (dPrim pLstM aNil) [some (.loc n), some (ndD k), none] S = some (.nx [some (.loc n), some (ndD k), some (.loc S.length)] (S ++ [.lst []])) := rfl
  have hR : (S ++ [Cell.lst (iN (l.map (·.1)))])[S.length]? = some (.lst (iN (l.map (·.1)))) := get_len _ _
  have s3 : dExpr (dMt pReverse (dVar 2) aNil) [some (.loc n), some .non, some (.loc S.length)] (S ++ [.lst (iN (l.map (·.1)))]) = some (.nx [some (.loc n), some .non, some (.loc S.length)] (S ++ [.lst (iN ((l.map (·.1)).reverse))])) := by
    have v2 : dVar 2 [some (.loc n), some .non, some (.loc S.length)] (S ++ [.lst (iN (l.map (·.1)))]) = some (.loc S.length, S ++ [.lst (iN (l.map (·.1)))]) := rfl
    have rv : pReverse (.loc S.length) [] (S ++ [.lst (iN (l.map (·.1)))]) = some (.non, S ++ [.lst (iN ((l.map (·.1)).reverse))]) := by
      unfold pReverse
      simp only [hR]
      rw [es]
      simp [iN]
    rw [v_expr, v_mt, v2]
    simp only [asL_loc hR, v_nil, rv]
  unfold F_led_by b_led_by runF
  show (match (dSeq _ _ [some (.loc n), some (ndD k), none] S : Option Out) with | some (.rt d S') => some (d, S') | some (.nx _ S') => some (.non, S') | _ => none) = _
  rw [v_seq, s1]
  simp only
  rw [v_seq, show whileL lbC lbB 100000 _ _ = _ from el]
  simp only
  rw [v_seq, s3]
  simp only
  rfl
/-! ### a turn of the search -/
section
variable {S0 : Sto} {C : Cm} {q : List Nd}
def BS (S0 : Sto) (C : Cm) (q : List Nd) : Sto := S0 ++ [cmC C, .lst (q.map ndD)]
theorem bs_c : (BS S0 C q)[S0.length]? = some (cmC C) := n_off (k := 0)
theorem bs_q : (BS S0 C q)[S0.length + 1]? = some (.lst (q.map ndD)) := n_off (k := 1)
theorem bs_setC {C' : Cm} : (BS S0 C q).set S0.length (cmC C') = BS S0 C' q := n_set (k := 0)
theorem bs_setQ {q' : List Nd} : (BS S0 C q).set (S0.length + 1) (.lst (q'.map ndD)) = BS S0 C q' := n_set (k := 1)
theorem in_own_int {ks : List Nat} {x : Nat} {neg : Bool} {S : Sto} : pIn neg (.int x) (.lst .own (iN ks)) S = some (.bl (if neg then !decide (x ∈ ks) else decide (x ∈ ks)), S) := by
  have fl : (iN ks).all flD = true := List.all_eq_true.mpr fun d hd => by
    obtain ⟨n, _, rfl⟩ := List.mem_map.mp hd
    rfl
  have e : inD (.int (x : Nat)) (iN ks) = decide (x ∈ ks) := by
    induction ks with
    | nil => rfl
    | cons k ks ih =>
      have fl2 : (iN ks).all flD = true := List.all_eq_true.mpr fun d hd => by
        obtain ⟨n, _, rfl⟩ := List.mem_map.mp hd
        rfl
      have ih := ih fl2
      unfold inD at ih ⊢
      show (eqF (.int (k : Nat)) (.int (x : Nat)) || (iN ks).any _) = _
      rw [ih]
      by_cases w : k = x
      · subst w
        have : eqF (.int (k : Nat)) (.int (k : Nat)) = true := by simp [eqF]
        rw [this]
        simp
      · have : eqF (.int (k : Nat)) (.int (x : Nat)) = false := by simp [eqF]; omega
        have w2 : ¬ x = k := fun z => w z.symm
        rw [this, Bool.false_or]
        simp [w2]
  unfold pIn
  simp only [asL]
  rw [if_pos ⟨rfl, fl⟩, e]
end
end Lk34

namespace Lk34
open PySem PySem.Spec PyProof.Rows L2 Dn
def sucS (rows : List PRow) (keeps : List Nat) (nm : Str) (k : Nd) : List Nd := match rows[k.1]? with
  | none => []
  | some r => (match beh (tch nm r) k.2 with
    | none => []
    | some s => ((r.led k.1).filter fun t => !decide (t ∈ keeps)).map fun t => (t, s))
def tstS (rows : List PRow) (nm : Str) (k : Nd) : Bool := k.2 && (match rows[k.1]? with
  | some r => decide (tch nm r = "store") || decide (tch nm r = "lay")
  | none => false)
abbrev ES (P CD : DV) (nm : Str) (rows : List PRow) (pl keeps : List Nat) (c : Nat) (x7 x9 x10 x11 x12 : Option DV) : List (Option DV) :=
  [some P, some CD, some (.str nm), some (.lst .own (leadsD rows)), some (.lst .own (iN pl)), some (.lst .own (iN keeps)), some (.loc c), x7, some (.loc (c + 1)), x9, x10, x11, x12]
abbrev inSp : DS := dIfS (dAnd (dBin (pIn true) (dVar 12) (dVar 5)) (dBin (pLfIn true) (dPrim pTup (aCons (dVar 12) (aCons (dVar 11) aNil))) (dVar 6))) (dSeq (dLfSub (dVar 9) (dVar 6) (dPrim pTup (aCons (dVar 12) (aCons (dVar 11) aNil))))
  (dExpr (dMt pAppend (dVar 8) (aCons (dPrim pTup (aCons (dVar 12) (aCons (dVar 11) aNil))) aNil)))) dNext
section
variable {S0 : Sto} {P CD : DV} {nm : Str} {rows : List PRow} {pl keeps : List Nat}
theorem inSp_ok {C : Cm} {q : List Nd} {k : Nd} {s : Bool} {t : Nat} {x7 x10 : Option DV} (hz : C.length < 50000) (hz2 : q.length < 50000) :
    inSp (ES P CD nm rows pl keeps S0.length x7 (some (ndD k)) x10 (some (.bl s)) (some (.int t))) (BS S0 C q) = some (.nx (ES P CD nm rows pl keeps S0.length x7 (some (ndD k)) x10 (some (.bl s)) (some (.int t)))
      (BS S0 (if t ∈ keeps then (C, q) else push k (C, q) (t, s)).1 (if t ∈ keeps then (C, q) else push k (C, q) (t, s)).2)) := by
  let ρ := ES P CD nm rows pl keeps S0.length x7 (some (ndD k)) x10 (some (.bl s)) (some (.int t))
  have h1 : dBin (pIn true) (dVar 12) (dVar 5) ρ (BS S0 C q) = some (.bl (!decide (t ∈ keeps)), BS S0 C q) := in_own_int (neg := true)
  have tp : ∀ S : Sto, dPrim pTup (aCons (dVar 12) (aCons (dVar 11) aNil)) ρ S = some (ndD (t, s), S) := fun S => rfl
  have v6 : ∀ S : Sto, dVar 6 ρ S = some (.loc S0.length, S) := fun S => rfl
  have v8 : ∀ S : Sto, dVar 8 ρ S = some (.loc (S0.length + 1), S) := fun S => rfl
  have v9 : ∀ S : Sto, dVar 9 ρ S = some (ndD k, S) := fun S => rfl
  have h2 : dBin (pLfIn true) (dPrim pTup (aCons (dVar 12) (aCons (dVar 11) aNil))) (dVar 6) ρ (BS S0 C q) = some (.bl (!decide ((t, s) ∈ C.map (·.1))), BS S0 C q) := by
    rw [v_bin, tp]
    simp only [v6]
    exact in_cm bs_c (t, s) true
  show dIfS _ _ _ ρ _ = _
  rw [v_ifS, Dn.v_and, h1]
  by_cases k1 : t ∈ keeps
  · rw [decide_eq_true k1, if_pos k1]
    simp only [Bool.not_true, v_next]
    rfl
  · rw [decide_eq_false k1, if_neg k1]
    simp only [Bool.not_false]
    rw [h2]
    unfold push
    dsimp only
    by_cases k2 : (t, s) ∈ C.map (·.1)
    · rw [decide_eq_true k2, if_pos k2]
      simp only [Bool.not_true, v_next]
      rfl
    · rw [decide_eq_false k2, if_neg k2]
      simp only [Bool.not_false]
      have e1 : dLfSub (dVar 9) (dVar 6) (dPrim pTup (aCons (dVar 12) (aCons (dVar 11) aNil))) ρ (BS S0 C q) = some (.nx ρ (BS S0 (C ++ [((t, s), some k)]) q)) := by
        have st := set_cm (S := BS S0 C q) (n := S0.length) (C := C) (k := (t, s)) (v := some k) bs_c k2 (by omega)
        rw [bs_setC] at st
        unfold dLfSub
        simp only [v9, v6, tp]
        rw [show ndD k = optN (some k) from rfl, st]
      have e2 : dExpr (dMt pAppend (dVar 8) (aCons (dPrim pTup (aCons (dVar 12) (aCons (dVar 11) aNil))) aNil)) ρ (BS S0 (C ++ [((t, s), some k)]) q) = some (.nx ρ (BS S0 (C ++ [((t, s), some k)]) (q ++ [(t, s)]))) := by
        have hq : (BS S0 (C ++ [((t, s), some k)]) q)[S0.length + 1]? = some (.lst (q.map ndD)) := bs_q
        have ap := app_loc (y := ndD (t, s)) hq (by rw [List.length_map]; omega)
        have eq1 : q.map ndD ++ [ndD (t, s)] = (q ++ [(t, s)]).map ndD := by rw [List.map_append] <;> rfl
        rw [eq1, bs_setQ] at ap
        rw [v_expr, v_mt, v8]
        simp only [asL_loc hq, v_cons, v_nil, tp, ap]
      rw [v_seq, e1]
      simp only
      rw [e2]
theorem inSp_loop {k : Nd} {s : Bool} {x7 x10 : Option DV} : ∀ (ts : List Nat) (C : Cm) (q : List Nd) (x12 : Option DV), C.length + ts.length < 40000 → q.length + ts.length < 40000 →
    ∃ y, forL (gSet 12) inSp (iN ts) (ES P CD nm rows pl keeps S0.length x7 (some (ndD k)) x10 (some (.bl s)) x12) (BS S0 C q) = some (.nx (ES P CD nm rows pl keeps S0.length x7 (some (ndD k)) x10 (some (.bl s)) y)
      (BS S0 (((ts.filter fun t => !decide (t ∈ keeps)).map fun t => (t, s)).foldl (push k) (C, q)).1 (((ts.filter fun t => !decide (t ∈ keeps)).map fun t => (t, s)).foldl (push k) (C, q)).2))
  | [], C, q, x12, _, _ => ⟨x12, rfl⟩
  | t :: ts, C, q, x12, h1, h2 => by
    rw [List.length_cons] at h1 h2
    have hb := inSp_ok (S0 := S0) (P := P) (CD := CD) (nm := nm) (rows := rows) (pl := pl) (keeps := keeps) (C := C) (q := q) (k := k) (s := s) (t := t) (x7 := x7) (x10 := x10) (by omega) (by omega)
    have hl : (push k (C, q) (t, s)).1.length ≤ C.length + 1 ∧ (push k (C, q) (t, s)).2.length ≤ q.length + 1 := by
      unfold push
      dsimp only
      split
      · exact ⟨Nat.le_succ _, Nat.le_succ _⟩
      · simp
    show ∃ y, forL (gSet 12) inSp (.int (t : Nat) :: iN ts) _ _ = _
    unfold forL
    simp only [v_gset, ES, List.set_cons_succ, List.set_cons_zero]
    simp only [ES] at hb
    rw [hb]
    simp only
    by_cases k1 : t ∈ keeps
    · rw [if_pos k1]
      obtain ⟨y, ih⟩ := inSp_loop (k := k) (s := s) (x7 := x7) (x10 := x10) ts C q (some (.int t)) (by omega) (by omega)
      refine ⟨y, ?_⟩
      simp only [ES] at ih
      rw [ih, List.filter_cons_of_neg (by simp [k1])]
    · rw [if_neg k1]
      obtain ⟨y, ih⟩ := inSp_loop (k := k) (s := s) (x7 := x7) (x10 := x10) ts (push k (C, q) (t, s)).1 (push k (C, q) (t, s)).2 (some (.int t)) (by omega) (by omega)
      refine ⟨y, ?_⟩
      simp only [ES] at ih
      rw [ih, List.filter_cons_of_pos (by simp [k1]), List.map_cons, List.foldl_cons]
/-! ### the search -/
abbrev spC : DE := dBin pGt (dPrim pLen (aCons (dVar 8) aNil)) (dC (.int 0))
abbrev spB : DS := (dSeq (dSet 9 (dMt pPopAt (dVar 8) (aCons (dC (.int 0)) aNil)))
  (dSeq (dSet 10 (dPrim (cP (pureOf F_touch) []) (aCons (dBin pIx (dBin pIx (dVar 0) (dC (.int 2))) (dBin pIx (dVar 9) (dC (.int 0)))) (aCons (dVar 2) aNil))))
  (dSeq (dIfS (dAnd (dBin pIx (dVar 9) (dC (.int 1))) (dBin (pIn false) (dVar 10) (dPrim pTup (aCons (dC (.str "store")) (aCons (dC (.str "lay")) aNil))))) (dRet (dPrim (cS F_led_by []) (aCons (dVar 6) (aCons (dVar 9) aNil)))) dNext)
  (dSeq (dSet 11 (dPrim (cP (pureOf F_behind) []) (aCons (dVar 10) (aCons (dBin pIx (dVar 9) (dC (.int 1))) aNil))))
  (dIfS (dBin (pIs true) (dVar 11) (dC .non)) (dFor (iSeq (dBin pIx (dVar 3) (dBin pIx (dVar 9) (dC (.int 0))))) (gSet 12) inSp) dNext)))))
theorem ix_own {S : Sto} {ds : List DV} {i : Int} {d : DV} (h : atD ds i = some d) : pIx (.lst .own ds) (.int i) S = some (d, S) := by
  unfold pIx
  simp only [asL, h]
theorem pop_first {S : Sto} {n : Nat} {x : DV} {xs : List DV} (h : S[n]? = some (.lst (x :: xs))) : pPopAt (.loc n) [.int 0] S = some (x, S.set n (.lst xs)) := by
  unfold pPopAt
  simp only [h]
  have e : ixN (x :: xs).length 0 = some 0 := by
    unfold ixN
    simp
  rw [if_pos (by decide), e]
  rfl
theorem spC_ok {C : Cm} {q : List Nd} {x7 x9 x10 x11 x12 : Option DV} : spC (ES P CD nm rows pl keeps S0.length x7 x9 x10 x11 x12) (BS S0 C q) = some (.bl (decide (0 < q.length)), BS S0 C q) := by
  have hlen : pLen [.loc (S0.length + 1)] (BS S0 C q) = some (.int q.length, BS S0 C q) := by
    show (match asL (BS S0 C q) (.loc (S0.length + 1)) with | some ds => some (DV.int ds.length, BS S0 C q) | none => _) = _
    rw [asL_loc bs_q]
    simp only
    rw [List.length_map]
  have v8 : dVar 8 (ES P CD nm rows pl keeps S0.length x7 x9 x10 x11 x12) (BS S0 C q) = some (.loc (S0.length + 1), BS S0 C q) := rfl
  simp only [v_bin, v_prim, v_cons, v_nil, v8, hlen, v_c, v_gt]
  have : decide ((0 : Int) < (q.length : Int)) = decide (0 < q.length) := by
    by_cases w : 0 < q.length
    · rw [decide_eq_true w, decide_eq_true (by omega)]
    · rw [decide_eq_false w, decide_eq_false (by omega)]
  rw [this]
theorem spB_ok {c0 s0 : DV} {C : Cm} {q : List Nd} {k : Nd} {r : PRow} {x7 x9 x10 x11 x12 : Option DV} (hP : P = .tup [c0, s0, .tup (rows.map PRow.d)]) (hr : rows[k.1]? = some r) (hn : (C.map (·.1)).Nodup) (hz : C.length < 20000) (hz2 : q.length < 20000)
    (hb : ∃ l, Back C k l ∧ l.length < 5000) :
    (tstS rows nm k = true ∧ ∃ l, Back C k l ∧ spB (ES P CD nm rows pl keeps S0.length x7 x9 x10 x11 x12) (BS S0 C (k :: q)) = some (.rt (.loc (S0.length + 2)) (BS S0 C q ++ [.lst (iN ((l.map (·.1)).reverse))]))) ∨
    (tstS rows nm k = false ∧ ∃ y9 y10 y11 y12, spB (ES P CD nm rows pl keeps S0.length x7 x9 x10 x11 x12) (BS S0 C (k :: q)) = some (.nx (ES P CD nm rows pl keeps S0.length x7 y9 y10 y11 y12)
      (BS S0 ((sucS rows keeps nm k).foldl (push k) (C, q)).1 ((sucS rows keeps nm k).foldl (push k) (C, q)).2))) := by
  subst hP
  let ρ0 := ES (.tup [c0, s0, .tup (rows.map PRow.d)]) CD nm rows pl keeps S0.length x7 x9 x10 x11 x12
  let ρ1 := ES (.tup [c0, s0, .tup (rows.map PRow.d)]) CD nm rows pl keeps S0.length x7 (some (ndD k)) x10 x11 x12
  let ρ2 := ES (.tup [c0, s0, .tup (rows.map PRow.d)]) CD nm rows pl keeps S0.length x7 (some (ndD k)) (some (.str (tch nm r))) x11 x12
  have s1 : dSet 9 (dMt pPopAt (dVar 8) (aCons (dC (.int 0)) aNil)) ρ0 (BS S0 C (k :: q)) = some (.nx ρ1 (BS S0 C q)) := by
    have hq : (BS S0 C (k :: q))[S0.length + 1]? = some (.lst (ndD k :: q.map ndD)) := bs_q
    have pp := pop_first hq
    rw [bs_setQ] at pp
    have v8 : dVar 8 ρ0 (BS S0 C (k :: q)) = some (.loc (S0.length + 1), BS S0 C (k :: q)) := rfl
    rw [v_set, v_mt, v8]
    simp only [asL_loc hq, v_cons, v_nil, v_c, pp]
    rfl
  have s2 : dSet 10 (dPrim (cP (pureOf F_touch) []) (aCons (dBin pIx (dBin pIx (dVar 0) (dC (.int 2))) (dBin pIx (dVar 9) (dC (.int 0)))) (aCons (dVar 2) aNil))) ρ1 (BS S0 C q) = some (.nx ρ2 (BS S0 C q)) := by
    have hx : ∀ S : Sto, pIx (.tup (rows.map PRow.d)) (.int k.1) S = some (r.d, S) := fun S => ix_tup (atD_nat (by rw [List.getElem?_map, hr] <;> rfl))
    have a1 : dBin pIx (dBin pIx (dVar 0) (dC (.int 2))) (dBin pIx (dVar 9) (dC (.int 0))) ρ1 (BS S0 C q) = some (r.d, BS S0 C q) := hx _
    have v2 : dVar 2 ρ1 (BS S0 C q) = some (.str nm, BS S0 C q) := rfl
    have p1 : plainL [r.d, .str nm] = true := by simp [PRow.plain_d]
    have c1 : cP (pureOf F_touch) [] [r.d, .str nm] (BS S0 C q) = some (.str (tch nm r), BS S0 C q) := by
      simp only [cP_eq, cpL_plain p1, touch_eq]
    rw [v_set, v_prim, v_cons, a1]
    simp only [v_cons, v_nil, v2, c1]
    rfl
  have i1 : dBin pIx (dVar 9) (dC (.int 1)) ρ2 (BS S0 C q) = some (.bl k.2, BS S0 C q) := rfl
  have i2 : dBin (pIn false) (dVar 10) (dPrim pTup (aCons (dC (.str "store")) (aCons (dC (.str "lay")) aNil))) ρ2 (BS S0 C q) = some (.bl (decide (tch nm r = "store") || decide (tch nm r = "lay")), BS S0 C q) := in_2
  have ht : tstS rows nm k = (k.2 && (decide (tch nm r = "store") || decide (tch nm r = "lay"))) := by
    unfold tstS
    rw [hr]
  have go : ∀ (o : Option Out), (dSeq (dIfS (dAnd (dBin pIx (dVar 9) (dC (.int 1))) (dBin (pIn false) (dVar 10) (dPrim pTup (aCons (dC (.str "store")) (aCons (dC (.str "lay")) aNil))))) (dRet (dPrim (cS F_led_by []) (aCons (dVar 6) (aCons (dVar 9) aNil)))) dNext)
      (dSeq (dSet 11 (dPrim (cP (pureOf F_behind) []) (aCons (dVar 10) (aCons (dBin pIx (dVar 9) (dC (.int 1))) aNil))))
      (dIfS (dBin (pIs true) (dVar 11) (dC .non)) (dFor (iSeq (dBin pIx (dVar 3) (dBin pIx (dVar 9) (dC (.int 0))))) (gSet 12) inSp) dNext)) ρ2 (BS S0 C q)) = o → spB ρ0 (BS S0 C (k :: q)) = o := fun o h => by
    show dSeq _ _ _ _ = _
    rw [v_seq, s1]
    simp only
    rw [v_seq, s2]
    simp only
    exact h
  cases hT : tstS rows nm k with
  | true =>
    refine .inl ⟨rfl, ?_⟩
    obtain ⟨l, B, hl⟩ := hb
    refine ⟨l, B, go _ ?_⟩
    rw [ht, Bool.and_eq_true] at hT
    have lb := led_by_eq (S := BS S0 C q) (n := S0.length) hn bs_c B hl
    have bl : (BS S0 C q).length = S0.length + 2 := by
      unfold BS
      rw [List.length_append]
      rfl
    rw [bl] at lb
    have c1 : dPrim (cS F_led_by []) (aCons (dVar 6) (aCons (dVar 9) aNil)) ρ2 (BS S0 C q) = some (.loc (S0.length + 2), BS S0 C q ++ [.lst (iN ((l.map (·.1)).reverse))]) := by
      have a0 : aCons (dVar 6) (aCons (dVar 9) aNil) ρ2 (BS S0 C q) = some ([.loc S0.length, ndD k], BS S0 C q) := rfl
      have c2 : cS F_led_by [] [.loc S0.length, ndD k] (BS S0 C q) = some (.loc (S0.length + 2), BS S0 C q ++ [.lst (iN ((l.map (·.1)).reverse))]) := lb
      rw [v_prim]
      simp only [a0, c2]
    rw [v_seq, v_ifS, Dn.v_and, i1, hT.1]
    simp only
    rw [i2, hT.2]
    simp only
    rw [v_ret, c1]
  | false =>
    refine .inr ⟨rfl, ?_⟩
    have a3 : dIfS (dAnd (dBin pIx (dVar 9) (dC (.int 1))) (dBin (pIn false) (dVar 10) (dPrim pTup (aCons (dC (.str "store")) (aCons (dC (.str "lay")) aNil))))) (dRet (dPrim (cS F_led_by []) (aCons (dVar 6) (aCons (dVar 9) aNil)))) dNext ρ2 (BS S0 C q) = some (.nx ρ2 (BS S0 C q)) := by
      rw [v_ifS, Dn.v_and, i1]
      cases h2 : k.2 with
      | false => simp only [v_next]
      | true =>
        rw [ht, h2, Bool.true_and] at hT
        simp only
        rw [i2, hT]
        simp only [v_next]
    let ρ3 := ES (.tup [c0, s0, .tup (rows.map PRow.d)]) CD nm rows pl keeps S0.length x7 (some (ndD k)) (some (.str (tch nm r))) (some (optB (beh (tch nm r) k.2))) x12
    have a4 : dSet 11 (dPrim (cP (pureOf F_behind) []) (aCons (dVar 10) (aCons (dBin pIx (dVar 9) (dC (.int 1))) aNil))) ρ2 (BS S0 C q) = some (.nx ρ3 (BS S0 C q)) := by
      have a0 : aCons (dVar 10) (aCons (dBin pIx (dVar 9) (dC (.int 1))) aNil) ρ2 (BS S0 C q) = some ([.str (tch nm r), .bl k.2], BS S0 C q) := rfl
      have c1 : cP (pureOf F_behind) [] [.str (tch nm r), .bl k.2] (BS S0 C q) = some (optB (beh (tch nm r) k.2), BS S0 C q) := by
        simp only [cP_eq, cpL_plain (show plainL [DV.str (tch nm r), .bl k.2] = true from rfl), behind_eq]
      rw [v_set, v_prim]
      simp only [a0, c1]
      rfl
    cases hB : beh (tch nm r) k.2 with
    | none =>
      have es : sucS rows keeps nm k = [] := by
        unfold sucS
        rw [hr]
        simp only [hB]
      refine ⟨some (ndD k), some (.str (tch nm r)), some .non, x12, go _ ?_⟩
      rw [v_seq, a3]
      simp only
      rw [v_seq, a4]
      simp only
      have c5 : dBin (pIs true) (dVar 11) (dC .non) ρ3 (BS S0 C q) = some (.bl false, BS S0 C q) := by
        show pIs true (optB (beh (tch nm r) k.2)) .non _ = _
        rw [hB]
        rfl
      rw [v_ifS, c5, es]
      simp only [v_next]
      show some (Out.nx (ES _ _ _ _ _ _ _ _ _ _ (some (optB (beh (tch nm r) k.2))) _) _) = _
      rw [hB]
      rfl
    | some s =>
      have es : sucS rows keeps nm k = ((r.led k.1).filter fun t => !decide (t ∈ keeps)).map fun t => (t, s) := by
        unfold sucS
        rw [hr]
        simp only [hB]
      have hle : (r.led k.1).length ≤ 2 := by cases r <;> simp [PRow.led]
      obtain ⟨y, el⟩ := inSp_loop (S0 := S0) (P := .tup [c0, s0, .tup (rows.map PRow.d)]) (CD := CD) (nm := nm) (rows := rows) (pl := pl) (keeps := keeps) (k := k) (s := s) (x7 := x7) (x10 := some (.str (tch nm r))) (r.led k.1) C q x12 (by omega) (by omega)
      refine ⟨some (ndD k), some (.str (tch nm r)), some (.bl s), y, go _ ?_⟩
      rw [v_seq, a3]
      simp only
      rw [v_seq, a4]
      simp only
      have c5 : dBin (pIs true) (dVar 11) (dC .non) ρ3 (BS S0 C q) = some (.bl true, BS S0 C q) := by
        show pIs true (optB (beh (tch nm r) k.2)) .non _ = _
        rw [hB]
        rfl
      have e3 : ρ3 = ES (.tup [c0, s0, .tup (rows.map PRow.d)]) CD nm rows pl keeps S0.length x7 (some (ndD k)) (some (.str (tch nm r))) (some (.bl s)) x12 := by
        show ES _ _ _ _ _ _ _ _ _ _ (some (optB (beh (tch nm r) k.2))) _ = _
        rw [hB]
        rfl
      have hi : iSeq (dBin pIx (dVar 3) (dBin pIx (dVar 9) (dC (.int 0)))) ρ3 (BS S0 C q) = some (iN (r.led k.1), BS S0 C q) := by
        have hx : pIx (.lst .own (leadsD rows)) (.int k.1) (BS S0 C q) = some (ledD k.1 r, BS S0 C q) := by
          refine ix_own (atD_nat ?_)
          unfold leadsD
          rw [List.getElem?_mapIdx, hr]
          rfl
        have : dBin pIx (dVar 3) (dBin pIx (dVar 9) (dC (.int 0))) ρ3 (BS S0 C q) = some (ledD k.1 r, BS S0 C q) := hx
        rw [iSeq_eq, this]
        rfl
      rw [v_ifS, c5]
      simp only
      rw [v_for, hi]
      simp only
      rw [e3, el, es]
end
end Lk34

namespace Lk34
open PySem PySem.Spec PyProof.Rows L2 Dn
/-! ### the begin -/
def seed (C : Cm) (n : Nat) : Cm := if (n, false) ∈ C.map (·.1) then C else C ++ [((n, false), none)]
abbrev AllNone (C : Cm) : Prop := ∀ e ∈ C, e.2 = none
theorem seed_none {C : Cm} {n : Nat} (h : AllNone C) : AllNone (seed C n) := by
  unfold seed
  split
  · exact h
  · intro e he
    rcases List.mem_append.mp he with z | z
    · exact h e z
    · rw [List.mem_singleton.mp z]
theorem seed_nodup {C : Cm} {n : Nat} (h : (C.map (·.1)).Nodup) : ((seed C n).map (·.1)).Nodup := by
  unfold seed
  split
  · exact h
  · rename_i q
    rw [List.map_append]
    exact List.nodup_append.mpr ⟨h, List.pairwise_singleton _ _, fun a ha b hb e => q (by rw [List.mem_singleton.mp hb] at e; rw [e] at ha; exact ha)⟩
theorem seed_mem {C : Cm} {n : Nat} {k : Nd} : k ∈ (seed C n).map (·.1) ↔ k ∈ C.map (·.1) ∨ k = (n, false) := by
  unfold seed
  split
  · rename_i q
    exact ⟨.inl, fun z => z.elim id fun e => by rw [e]; exact q⟩
  · rw [List.map_append, List.mem_append]
    simp
theorem seed_len {C : Cm} {n : Nat} : (seed C n).length ≤ C.length + 1 := by
  unfold seed
  split
  · omega
  · simp
theorem rp_none {k : Int × Bool} : ∀ {C : Cm}, AllNone C → rpG k (.non : DV) ((C.map (·.1)).map ndK) (C.map fun e => optN e.2) = C.map fun e => optN e.2
  | [], _ => rfl
  | e :: C, h => by
    have ih := rp_none (k := k) (C := C) fun x hx => h x (List.mem_cons_of_mem _ hx)
    have h0 := h e List.mem_cons_self
    rw [List.map_cons, List.map_cons, List.map_cons]
    show (if ndK e.1 = k then DV.non else optN e.2) :: rpG k .non _ _ = _
    rw [ih, h0]
    split <;> rfl
theorem set_seed {S : Sto} {m : Nat} {C : Cm} {n : Nat} (h : S[m]? = some (cmC C)) (hz : C.length < 100000) (ha : AllNone C) : lfSetI (.loc m) (ndD (n, false)) .non S = some (S.set m (cmC (seed C n))) := by
  by_cases q : (n, false) ∈ C.map (·.1)
  · have e : seed C n = C := by
      unfold seed
      rw [if_pos q]
    unfold lfSetI
    simp only [h, cmC, lfKey_nd]
    rw [if_pos (by rw [List.length_map, List.length_map, size_eq]; omega)]
    unfold putKs putVs
    rw [hasK_nd, decide_eq_true q]
    simp only [if_true]
    rw [rp_none ha, e]
  · have := set_cm h (k := (n, false)) (v := none) q hz
    have e : seed C n = C ++ [((n, false), none)] := by
      unfold seed
      rw [if_neg q]
    rw [e]
    exact this
abbrev seB : DS := dLfSub (dC .non) (dVar 6) (dPrim pTup (aCons (dVar 7) (aCons (dC (.bl false)) aNil)))
theorem seed_loop {S0 : Sto} {x0 x1 x2 x3 x4 x5 : Option DV} {tl : List (Option DV)} : ∀ (ns : List Nat) (C : Cm) (x7 : Option DV), C.length + ns.length < 50000 → AllNone C →
    ∃ y, forL (gSet 7) seB (iN ns) (x0 :: x1 :: x2 :: x3 :: x4 :: x5 :: some (.loc S0.length) :: x7 :: tl) (S0 ++ [cmC C]) = some (.nx (x0 :: x1 :: x2 :: x3 :: x4 :: x5 :: some (.loc S0.length) :: y :: tl) (S0 ++ [cmC (ns.foldl seed C)]))
  | [], C, x7, _, _ => ⟨x7, rfl⟩
  | n :: ns, C, x7, hz, ha => by
    rw [List.length_cons] at hz
    have hl := seed_len (C := C) (n := n)
    obtain ⟨y, ih⟩ := seed_loop (S0 := S0) (x0 := x0) (x1 := x1) (x2 := x2) (x3 := x3) (x4 := x4) (x5 := x5) (tl := tl) ns (seed C n) (some (.int n)) (by omega) (seed_none ha)
    have hc : (S0 ++ [cmC C])[S0.length]? = some (cmC C) := n_off (k := 0)
    have st := set_seed (n := n) hc (by omega) ha
    have e : (S0 ++ [cmC C]).set S0.length (cmC (seed C n)) = S0 ++ [cmC (seed C n)] := n_set (k := 0)
    rw [e] at st
    refine ⟨y, ?_⟩
    show forL (gSet 7) seB (.int (n : Nat) :: iN ns) _ _ = _
    unfold forL
    simp only [v_gset, List.set_cons_succ, List.set_cons_zero]
    have hb : seB (x0 :: x1 :: x2 :: x3 :: x4 :: x5 :: some (.loc S0.length) :: some (.int n) :: tl) (S0 ++ [cmC C]) = some (.nx (x0 :: x1 :: x2 :: x3 :: x4 :: x5 :: some (.loc S0.length) :: some (.int n) :: tl) (S0 ++ [cmC (seed C n)])) := by
      have v6 : dVar 6 (x0 :: x1 :: x2 :: x3 :: x4 :: x5 :: some (.loc S0.length) :: some (.int n) :: tl) (S0 ++ [cmC C]) = some (.loc S0.length, S0 ++ [cmC C]) := rfl
      have tp : dPrim pTup (aCons (dVar 7) (aCons (dC (.bl false)) aNil)) (x0 :: x1 :: x2 :: x3 :: x4 :: x5 :: some (.loc S0.length) :: some (.int n) :: tl) (S0 ++ [cmC C]) = some (ndD (n, false), S0 ++ [cmC C]) := rfl
      show dLfSub _ _ _ _ _ = _
      unfold dLfSub
      simp only [v_c, v6, tp, st]
    rw [hb]
    exact ih
theorem seeds_ok : ∀ {ns : List Nat} {C : Cm}, (C.map (·.1)).Nodup → AllNone C → ((ns.foldl seed C).map (·.1)).Nodup ∧ AllNone (ns.foldl seed C) ∧ (∀ k, k ∈ (ns.foldl seed C).map (·.1) ↔ k ∈ C.map (·.1) ∨ ∃ n ∈ ns, k = (n, false)) ∧ (ns.foldl seed C).length ≤ C.length + ns.length
  | [], C, h1, h2 => ⟨h1, h2, fun k => by simp, by simp⟩
  | n :: ns, C, h1, h2 => by
    obtain ⟨i1, i2, i3, i4⟩ := seeds_ok (ns := ns) (seed_nodup (n := n) h1) (seed_none (n := n) h2)
    have hl := seed_len (C := C) (n := n)
    rw [List.foldl_cons]
    refine ⟨i1, i2, fun k => ?_, by rw [List.length_cons]; omega⟩
    rw [i3 k, seed_mem]
    constructor
    · rintro ((h | h) | ⟨m, h3, h4⟩)
      · exact .inl h
      · exact .inr ⟨n, List.mem_cons_self, h⟩
      · exact .inr ⟨m, List.mem_cons_of_mem _ h3, h4⟩
    · rintro (h | ⟨m, h3, h4⟩)
      · exact .inl (.inl h)
      · rcases List.mem_cons.mp h3 with e | e
        · exact .inl (.inr (by rw [← e]; exact h4))
        · exact .inr ⟨m, e, h4⟩
/-! ### the whole search -/
def srcP (pl : List Nat) : List Nd := pl.map fun n => (n, false)
theorem suc_lt {rows : List PRow} {keeps : List Nat} {nm : Str} (hled : ∀ (a : Nat) (r : PRow), rows[a]? = some r → ∀ t ∈ r.led a, t < rows.length) {k t : Nd} (h : t ∈ sucS rows keeps nm k) : t.1 < rows.length := by
  unfold sucS at h
  split at h
  · cases h
  · rename_i r hr
    split at h
    · cases h
    · obtain ⟨x, hx, rfl⟩ := List.mem_map.mp h
      exact hled k.1 r hr x (List.mem_filter.mp hx).1
theorem nodes_le {ks : List Nd} {n : Nat} (hn : ks.Nodup) (h : ∀ k ∈ ks, k.1 < n) : ks.length ≤ 2 * n := by
  have := nodup_len hn (m := (List.range n).map (fun i => (i, false)) ++ (List.range n).map fun i => (i, true)) fun k hk => by
    rw [List.mem_append]
    obtain ⟨i, b⟩ := k
    have := h _ hk
    cases b with
    | false => exact .inl (List.mem_map.mpr ⟨i, List.mem_range.mpr this, rfl⟩)
    | true => exact .inr (List.mem_map.mpr ⟨i, List.mem_range.mpr this, rfl⟩)
  rw [List.length_append, List.length_map, List.length_map, List.length_range] at this
  omega
section
variable {S0 : Sto} {CD c0 s0 : DV} {nm : Str} {rows : List PRow} {pl keeps : List Nat}
theorem sp_loop (hled : ∀ (a : Nat) (r : PRow), rows[a]? = some r → ∀ t ∈ r.led a, t < rows.length) (hn : rows.length ≤ 1000) (x7 : Option DV) : ∀ (m : Nat) (C : Cm) (q : List Nd) (x9 x10 x11 x12 : Option DV),
    Srch (srcP pl) (sucS rows keeps nm) (tstS rows nm) C q → (∀ k ∈ C.map (·.1), k.1 < rows.length) → q.length ≤ C.length → 4 * rows.length + q.length < m + 2 * C.length →
    (∃ k l a b, tstS rows nm k = true ∧ BkOk (srcP pl) (sucS rows keeps nm) k l ∧ l.length ≤ 2 * rows.length ∧ whileL spC spB m (ES (.tup [c0, s0, .tup (rows.map PRow.d)]) CD nm rows pl keeps S0.length x7 x9 x10 x11 x12) (BS S0 C q) = some (.rt (.loc (S0.length + 2)) (S0 ++ [cmC a, .lst b, .lst (iN ((l.map (·.1)).reverse))]))) ∨
    ((∀ k, Rch (srcP pl) (sucS rows keeps nm) k → tstS rows nm k = false) ∧ ∃ ρ' a b, whileL spC spB m (ES (.tup [c0, s0, .tup (rows.map PRow.d)]) CD nm rows pl keeps S0.length x7 x9 x10 x11 x12) (BS S0 C q) = some (.nx ρ' (S0 ++ [cmC a, .lst b])))
  | 0, C, q, x9, x10, x11, x12, A, lt, ql, hm => by
    have := nodes_le A.nd lt
    rw [List.length_map] at this
    omega
  | m + 1, C, q, x9, x10, x11, x12, A, lt, ql, hm => by
    have hC := nodes_le A.nd lt
    rw [List.length_map] at hC
    have hc := spC_ok (S0 := S0) (P := .tup [c0, s0, .tup (rows.map PRow.d)]) (CD := CD) (nm := nm) (rows := rows) (pl := pl) (keeps := keeps) (C := C) (q := q) (x7 := x7) (x9 := x9) (x10 := x10) (x11 := x11) (x12 := x12)
    cases q with
    | nil =>
      refine .inr ⟨fun k hk => (srch_all A hk).2, ES (.tup [c0, s0, .tup (rows.map PRow.d)]) CD nm rows pl keeps S0.length x7 x9 x10 x11 x12, C, [], ?_⟩
      unfold whileL
      rw [hc]
      rfl
    | cons k q =>
      rw [decide_eq_true (by simp)] at hc
      have hk : k ∈ C.map (·.1) := A.qs k List.mem_cons_self
      have hr : rows[k.1]? = some (rows[k.1]'(lt k hk)) := List.getElem?_eq_getElem _
      generalize rows[k.1]'(lt k hk) = r at hr
      obtain ⟨l0, b1, b2, b3⟩ := back_key A hk
      rw [List.length_cons] at ql hm
      rcases spB_ok (S0 := S0) (P := .tup [c0, s0, .tup (rows.map PRow.d)]) (CD := CD) (nm := nm) (pl := pl) (keeps := keeps) (q := q) (x7 := x7) (x9 := x9) (x10 := x10) (x11 := x11) (x12 := x12) rfl hr A.nd (by omega) (by omega) ⟨l0, b1, by omega⟩ with ⟨ht, l, B, e⟩ | ⟨ht, y9, y10, y11, y12, e⟩
      · have bk : ∀ {k : Nd} {l : List Nd}, Back C k l → ∃ l', l' = l ∧ BkOk (srcP pl) (sucS rows keeps nm) k l := fun {k l} B => by
          induction B with
          | root h => exact ⟨_, rfl, .root (A.root _ h)⟩
          | step h _ ih =>
            obtain ⟨_, _, ih⟩ := ih
            obtain ⟨i, hi⟩ := List.getElem?_of_mem h
            exact ⟨_, rfl, .step (A.par i _ _ hi).1 ih⟩
        have uniq : ∀ {k : Nd} {l : List Nd}, Back C k l → ∀ {l2 : List Nd}, Back C k l2 → l = l2 := fun {k l} B => by
          have same : ∀ {k : Nd} {v w : Option Nd}, (k, v) ∈ C → (k, w) ∈ C → v = w := fun {k v w} h1 h2 => by
            obtain ⟨i, hi⟩ := List.getElem?_of_mem h1
            obtain ⟨j, hj⟩ := List.getElem?_of_mem h2
            have e1 : (C.map (·.1))[i]? = some k := by rw [List.getElem?_map, hi]; rfl
            have e2 : (C.map (·.1))[j]? = some k := by rw [List.getElem?_map, hj]; rfl
            have ij : i = j := (List.getElem?_inj (List.getElem?_eq_some_iff.mp e1).1 A.nd).mp (e1.trans e2.symm)
            rw [ij, hj] at hi
            cases hi
            rfl
          induction B with
          | root h =>
            intro l2 B2
            cases B2 with
            | root h2 => rfl
            | step h2 _ => cases same h h2
          | step h _ ih =>
            intro l2 B2
            cases B2 with
            | root h2 => cases same h h2
            | step h2 b => cases same h h2; rw [ih b]
        obtain ⟨_, _, bo⟩ := bk B
        have el := uniq B b1
        refine .inl ⟨k, l, C, q.map ndD, ht, bo, by rw [el]; omega, ?_⟩
        unfold whileL
        rw [hc]
        simp only
        rw [e]
        simp only [BS, List.append_assoc]
        rfl
      · obtain ⟨A', len⟩ := srch_step A ht
        have lt' : ∀ x ∈ ((sucS rows keeps nm k).foldl (push k) (C, q)).1.map (·.1), x.1 < rows.length := fun x hx => by
          rcases push_all.mp hx with z | z
          · exact lt x z
          · exact suc_lt hled z
        have hge : C.length ≤ ((sucS rows keeps nm k).foldl (push k) (C, q)).1.length := by
          have := nodup_len A.nd (m := ((sucS rows keeps nm k).foldl (push k) (C, q)).1.map (·.1)) fun x hx => push_all.mpr (.inl hx)
          rwa [List.length_map, List.length_map] at this
        have ih := sp_loop hled hn x7 m ((sucS rows keeps nm k).foldl (push k) (C, q)).1 ((sucS rows keeps nm k).foldl (push k) (C, q)).2 y9 y10 y11 y12 A' lt' (by omega) (by omega)
        have step : whileL spC spB (m + 1) (ES (.tup [c0, s0, .tup (rows.map PRow.d)]) CD nm rows pl keeps S0.length x7 x9 x10 x11 x12) (BS S0 C (k :: q)) = whileL spC spB m (ES (.tup [c0, s0, .tup (rows.map PRow.d)]) CD nm rows pl keeps S0.length x7 y9 y10 y11 y12) (BS S0 ((sucS rows keeps nm k).foldl (push k) (C, q)).1 ((sucS rows keeps nm k).foldl (push k) (C, q)).2) := by
          conv => lhs; unfold whileL
          rw [hc]
          simp only
          rw [e]
        rw [step]
        exact ih
end
end Lk34

namespace Lk34
open PySem PySem.Spec PyProof.Rows L2 Dn
abbrev PD (cells shelves : List (Str × Int × Bool)) (rows : List PRow) : DV := .tup [.tup (cells.map tD), .tup (shelves.map tD), .tup (rows.map PRow.d)]
theorem cut1 (xs : List DV) : Dn.cutD xs (some 1) none = xs.drop 1 := by
  unfold Dn.cutD
  rw [show HT.sIx xs.length xs.length none = xs.length from rfl]
  cases xs with
  | nil => rfl
  | cons x xs =>
    rw [show HT.sIx (x :: xs).length 0 (some 1) = 1 by
      show min (1 : Int).toNat (x :: xs).length = 1
      rw [List.length_cons]
      simp]
    exact List.take_of_length_le (by simp)
/-- what spoilt tells -/
inductive SpRes (S0 : Sto) (cells shelves : List (Str × Int × Bool)) (rows : List PRow) (keeps : List Nat) (nm : Str) : DV → Sto → Prop
  | twin (h : mayL nm (cells ++ shelves) = false) : SpRes S0 cells shelves rows keeps nm .non S0
  | none {a : Cm} {b : List DV} (h : mayL nm (cells ++ shelves) = true) (hn : ∀ k, Rch (srcP (0 :: keeps)) (sucS rows keeps nm) k → tstS rows nm k = false) : SpRes S0 cells shelves rows keeps nm .non (S0 ++ [cmC a, .lst b])
  | way {a : Cm} {b : List DV} {k : Nd} {l : List Nd} (h : mayL nm (cells ++ shelves) = true) (ht : tstS rows nm k = true) (hb : BkOk (srcP (0 :: keeps)) (sucS rows keeps nm) k l) (hl : l.length ≤ 2 * rows.length) :
    SpRes S0 cells shelves rows keeps nm (.loc (S0.length + 2)) (S0 ++ [cmC a, .lst b, .lst (iN ((l.map (·.1)).reverse))])
theorem pd_plain {cells shelves : List (Str × Int × Bool)} {rows : List PRow} : plain (PD cells shelves rows) = true := by
  have h1 : plainL (cells.map tD) = true := tD_plain
  have h2 : plainL (shelves.map tD) = true := tD_plain
  have h3 : plainL (rows.map PRow.d) = true := rows_plainW
  simp [h1, h2, h3]
theorem spoilt_ok (S0 : Sto) (cells shelves : List (Str × Int × Bool)) (rows : List PRow) (b : DV) (ks : List (Nat × DV)) (nm : Str) (hb : plain b = true) (hks : ∀ k ∈ ks, plain k.2 = true) (hz : cells.length + shelves.length < 1000)
    (hled : ∀ (a : Nat) (r : PRow), rows[a]? = some r → ∀ t ∈ r.led a, t < rows.length) (hn : rows.length ≤ 1000) (h0 : 0 < rows.length) (hkz : ks.length < 1000) (hk : ∀ k ∈ ks, k.1 < rows.length) :
    ∃ d S', F_spoilt [PD cells shelves rows, cdD b ks, .str nm] S0 = some (d, S') ∧ SpRes S0 cells shelves rows (ks.map (·.1)) nm d S' := by
  let P := PD cells shelves rows
  let CD := cdD b ks
  have pP : plain P = true := pd_plain
  have pC : plain CD = true := cdD_plain hb hks
  have cm : ∀ S : Sto, cP (pureOf F_may_spoil) [] [P, .str nm] S = some (.bl (mayL nm (cells ++ shelves)), S) := fun S => by
    have p : plainL [P, .str nm] = true := by simp [pP]
    have e : pureOf F_may_spoil [P, .str nm] = some (.bl (mayL nm (cells ++ shelves))) := may_eq cells shelves (.tup (rows.map PRow.d)) nm hz
    simp only [cP_eq, cpL_plain p, e]
  have cw : ∀ S : Sto, cP (pureOf F_ways) [] [P] S = some (.lst .own (leadsD rows), S) := fun S => by
    have p : plainL [P] = true := by simp [pP]
    have e : pureOf F_ways [P] = some (.lst .own (leadsD rows)) := nways_eq (.tup (cells.map tD)) (.tup (shelves.map tD)) rows hn
    simp only [cP_eq, cpL_plain p, e]
  have cp : ∀ S : Sto, cP (pureOf F_place_rows) [] [CD] S = some (.lst .own (iN (0 :: ks.map (·.1))), S) := fun S => by
    have p : plainL [CD] = true := by simp [pC]
    have e : pureOf F_place_rows [CD] = some (.lst .own (iN (0 :: ks.map (·.1)))) := places_eq b ks hkz
    simp only [cP_eq, cpL_plain p, e]
  let pl := 0 :: ks.map (·.1)
  let kp := ks.map (·.1)
  let N (x3 x4 x5 x6 x7 x8 : Option DV) : List (Option DV) := [some P, some CD, some (.str nm), x3, x4, x5, x6, x7, x8, none, none, none, none]
  have c0 : dPrim (cP (pureOf F_may_spoil) []) (aCons (dVar 0) (aCons (dVar 2) aNil)) (N none none none none none none) S0 = some (.bl (mayL nm (cells ++ shelves)), S0) := by
    have a0 : aCons (dVar 0) (aCons (dVar 2) aNil) (N none none none none none none) S0 = some ([P, .str nm], S0) := rfl
    rw [v_prim]
    simp only [a0, cm]
  cases hm : mayL nm (cells ++ shelves) with
  | false =>
    refine ⟨.non, S0, ?_, .twin hm⟩
    unfold F_spoilt b_spoilt runF
    show (match (dSeq _ _ (N none none none none none none) S0 : Option Out) with | some (.rt d S') => some (d, S') | some (.nx _ S') => some (.non, S') | _ => none) = _
    rw [v_seq, v_ifS, Dn.v_not, c0, hm]
    rfl
  | true =>
    have s0 : dIfS (dNot (dPrim (cP (pureOf F_may_spoil) []) (aCons (dVar 0) (aCons (dVar 2) aNil)))) (dRet (dC .non)) dNext (N none none none none none none) S0 = some (.nx (N none none none none none none) S0) := by
      rw [v_ifS, Dn.v_not, c0, hm]
      rfl
    have s1 : dSet 3 (dPrim (cP (pureOf F_ways) []) (aCons (dVar 0) aNil)) (N none none none none none none) S0 = some (.nx (N (some (.lst .own (leadsD rows))) none none none none none) S0) := by
      have a0 : aCons (dVar 0) aNil (N none none none none none none) S0 = some ([P], S0) := rfl
      rw [v_set, v_prim]
      simp only [a0, cw]
      rfl
    have s2 : dSet 4 (dPrim (cP (pureOf F_place_rows) []) (aCons (dVar 1) aNil)) (N (some (.lst .own (leadsD rows))) none none none none none) S0 = some (.nx (N (some (.lst .own (leadsD rows))) (some (.lst .own (iN pl))) none none none none) S0) := by
      have a0 : aCons (dVar 1) aNil (N (some (.lst .own (leadsD rows))) none none none none none) S0 = some ([CD], S0) := rfl
      rw [v_set, v_prim]
      simp only [a0, cp]
      rfl
    have s3 : dSet 5 (dSl pSl (dVar 4) (oSome (dC (.int 1))) oNone) (N (some (.lst .own (leadsD rows))) (some (.lst .own (iN pl))) none none none none) S0 = some (.nx (N (some (.lst .own (leadsD rows))) (some (.lst .own (iN pl))) (some (.lst .own (iN kp))) none none none) S0) := by
      have e : pSl (.lst .own (iN pl)) (some 1) none S0 = some (.lst .own (iN kp), S0) := by
        rw [v_slL, cut1]
        rfl
      have : dSl pSl (dVar 4) (oSome (dC (.int 1))) oNone (N (some (.lst .own (leadsD rows))) (some (.lst .own (iN pl))) none none none none) S0 = some (.lst .own (iN kp), S0) := e
      rw [v_set, this]
      rfl
    let S1 : Sto := S0 ++ [cmC []]
    have s4 : dSet 6 dLfNew (N (some (.lst .own (leadsD rows))) (some (.lst .own (iN pl))) (some (.lst .own (iN kp))) none none none) S0 = some (.nx (N (some (.lst .own (leadsD rows))) (some (.lst .own (iN pl))) (some (.lst .own (iN kp))) (some (.loc S0.length)) none none) S1) := rfl
    obtain ⟨y7, el⟩ := seed_loop (S0 := S0) (x0 := some P) (x1 := some CD) (x2 := some (.str nm)) (x3 := some (.lst .own (leadsD rows))) (x4 := some (.lst .own (iN pl))) (x5 := some (.lst .own (iN kp))) (tl := [none, none, none, none, none]) pl [] none (by
      show ([] : Cm).length + (0 :: ks.map (·.1)).length < _
      simp
      omega) (fun e he => nomatch he)
    obtain ⟨z1, z2, z3, z4⟩ := seeds_ok (ns := pl) (C := []) List.nodup_nil (fun e he => nomatch he)
    have hkeys : ∀ k, k ∈ (pl.foldl seed []).map (·.1) ↔ k ∈ srcP pl := fun k => by
      rw [z3 k]
      constructor
      · rintro (h | ⟨n, h1, h2⟩)
        · exact absurd h (by simp)
        · exact List.mem_map.mpr ⟨n, h1, h2.symm⟩
      · intro h
        obtain ⟨n, h1, h2⟩ := List.mem_map.mp h
        exact .inr ⟨n, h1, h2.symm⟩
    have z4' : (pl.foldl seed []).length ≤ ks.length + 1 := by
      have : ([] : Cm).length + pl.length = ks.length + 1 := by
        show 0 + (0 :: ks.map (·.1)).length = _
        simp
      omega
    generalize pl.foldl seed [] = C0 at el z1 z2 hkeys z4'
    have hlt : ∀ k ∈ C0.map (·.1), k.1 < rows.length := fun k h => by
      obtain ⟨n, h1, rfl⟩ := List.mem_map.mp ((hkeys k).mp h)
      rcases List.mem_cons.mp h1 with e | e
      · rw [e]; exact h0
      · obtain ⟨kk, hkk, rfl⟩ := List.mem_map.mp e
        exact hk kk hkk
    let q0 := C0.map (·.1)
    have A0 : Srch (srcP pl) (sucS rows kp nm) (tstS rows nm) C0 q0 := ⟨z1, fun s hs => (hkeys s).mpr hs, fun k h => (hkeys k).mp (List.mem_map.mpr ⟨_, h, rfl⟩), (fun i k p h => by
      have := z2 _ (List.mem_of_getElem? h)
      cases this), fun k h => h, fun k h1 h2 => absurd h1 h2⟩
    have s6 : dSet 8 (dPrim pLfList (aCons (dVar 6) aNil)) (N (some (.lst .own (leadsD rows))) (some (.lst .own (iN pl))) (some (.lst .own (iN kp))) (some (.loc S0.length)) y7 none) (S0 ++ [cmC C0]) = some (.nx (ES P CD nm rows pl kp S0.length y7 none none none none) (BS S0 C0 q0)) := by
      have hc : (S0 ++ [cmC C0])[S0.length]? = some (cmC C0) := n_off (k := 0)
      have pl1 : pLfList [.loc S0.length] (S0 ++ [cmC C0]) = some (.loc (S0.length + 1), BS S0 C0 q0) := by
        unfold pLfList lfOf
        simp only [hc]
        have l1 : (S0 ++ [cmC C0]).length = S0.length + 1 := by rw [List.length_append]; rfl
        show some (DV.loc (S0 ++ [cmC C0]).length, S0 ++ [cmC C0] ++ [Cell.lst (((C0.map (·.1)).map ndK).map lfD)]) = _
        rw [l1, List.append_assoc, List.map_map]
        rfl
      have a0 : aCons (dVar 6) aNil (N (some (.lst .own (leadsD rows))) (some (.lst .own (iN pl))) (some (.lst .own (iN kp))) (some (.loc S0.length)) y7 none) (S0 ++ [cmC C0]) = some ([.loc S0.length], S0 ++ [cmC C0]) := rfl
      rw [v_set, v_prim]
      simp only [a0, pl1]
      rfl
    have hCl : C0.length ≤ 2 * rows.length := by
      have := nodes_le z1 hlt
      rwa [List.length_map] at this
    have run := sp_loop (S0 := S0) (CD := CD) (c0 := .tup (cells.map tD)) (s0 := .tup (shelves.map tD)) (nm := nm) (rows := rows) (pl := pl) (keeps := kp) hled hn y7 100000 C0 q0 none none none none A0 hlt (by show (C0.map (·.1)).length ≤ _; rw [List.length_map]; exact Nat.le_refl _) (by show _ + (C0.map (·.1)).length < _; rw [List.length_map]; omega)
    have all : ∀ (o : Option Out) (w : Option (DV × Sto)), (dSeq (whileL spC spB 100000) (dRet (dC .non)) (ES P CD nm rows pl kp S0.length y7 none none none none) (BS S0 C0 q0)) = o → (match o with | some (.rt d S') => some (d, S') | some (.nx _ S') => some (.non, S') | _ => none) = w → F_spoilt [P, CD, .str nm] S0 = w := fun o w h1 h2 => by
      unfold F_spoilt b_spoilt runF
      show (match (dSeq _ _ (N none none none none none none) S0 : Option Out) with | some (.rt d S') => some (d, S') | some (.nx _ S') => some (.non, S') | _ => none) = _
      rw [v_seq, s0]
      simp only
      rw [v_seq, s1]
      simp only
      rw [v_seq, s2]
      simp only
      rw [v_seq, s3]
      simp only
      rw [v_seq, s4]
      simp only
      have hi : ∀ S : Sto, iSeq (dVar 4) (N (some (.lst .own (leadsD rows))) (some (.lst .own (iN pl))) (some (.lst .own (iN kp))) (some (.loc S0.length)) none none) S = some (iN pl, S) := fun _ => rfl
      rw [v_seq, v_for, hi]
      simp only
      rw [show forL (gSet 7) seB (iN pl) (N (some (.lst .own (leadsD rows))) (some (.lst .own (iN pl))) (some (.lst .own (iN kp))) (some (.loc S0.length)) none none) S1 = _ from el]
      simp only
      rw [v_seq, show dSet 8 _ _ _ = _ from s6]
      simp only
      rw [show (dSeq (whileL spC spB 100000) (dRet (dC .non)) (ES P CD nm rows pl kp S0.length y7 none none none none) (BS S0 C0 q0)) = o from h1]
      exact h2
    rcases run with ⟨k, l, a, bb, ht, bo, hl, e⟩ | ⟨hno, ρ', a, bb, e⟩
    · refine ⟨_, _, all _ _ (by rw [v_seq, e]) rfl, .way hm ht bo hl⟩
    · refine ⟨_, _, all _ _ (by rw [v_seq, e]) rfl, .none hm hno⟩
end Lk34

namespace Lk34
open PySem PySem.Spec PyProof.Rows L2 Dn
/-! ### what a way is -/
def tkR (nm : Str) (r : PRow) : Bool := decide (tch nm r = "load") || decide (tch nm r = "take")
def ptR (nm : Str) (r : PRow) : Bool := decide (tch nm r = "store") || decide (tch nm r = "lay")
def atB (rows : List PRow) (p : PRow → Bool) (x : Nat) : Bool := match rows[x]? with
  | some r => p r
  | none => false
structure WayOk (rows : List PRow) (pl keeps : List Nat) (w : List Nat) : Prop where
  first : ∀ x, w[0]? = some x → x ∈ pl
  next : ∀ (i x y : Nat), w[i]? = some x → w[i + 1]? = some y → y ∉ keeps ∧ ∃ r, rows[x]? = some r ∧ y ∈ r.led x
  lt : ∀ x ∈ w, x < rows.length
def stR (nm : Str) (r : PRow) : Bool := decide (tch nm r = "store")
structure Flag (rows : List PRow) (nm : Str) (w : List Nat) (s : Bool) : Prop where
  yes : s = true → ∃ j x, j + 1 < w.length ∧ w[j]? = some x ∧ atB rows (tkR nm) x = true ∧ ∀ (i y : Nat), i < j → w[i]? = some y → atB rows (tkR nm) y = false ∧ atB rows (stR nm) y = false
  no : s = false → ∀ (i y : Nat), i + 1 < w.length → w[i]? = some y → atB rows (tkR nm) y = false ∧ atB rows (stR nm) y = false
theorem way_props {rows : List PRow} {pl keeps : List Nat} {nm : Str} (hled : ∀ (a : Nat) (r : PRow), rows[a]? = some r → ∀ t ∈ r.led a, t < rows.length) (hpl : ∀ n ∈ pl, n < rows.length) {k : Nd} {l : List Nd} (B : BkOk (srcP pl) (sucS rows keeps nm) k l) :
    ∃ w0, (l.map (·.1)).reverse = w0 ++ [k.1] ∧ WayOk rows pl keeps (w0 ++ [k.1]) ∧ Flag rows nm (w0 ++ [k.1]) k.2 := by
  induction B with
  | @root k h =>
    obtain ⟨n, hn, rfl⟩ := List.mem_map.mp h
    refine ⟨[], rfl, ⟨fun x hx => ?_, fun i x y h1 h2 => ?_, fun x hx => ?_⟩, ⟨fun h => (nomatch h), fun _ i y h1 h2 => ?_⟩⟩
    · cases hx
      exact hn
    · simp at h2
    · have e : x = n := by simpa using hx
      rw [e]
      exact hpl n hn
    · simp at h1
  | @step k p l h hl ih =>
    obtain ⟨w0, e0, W, Fl⟩ := ih
    have hs := h
    unfold sucS at hs
    cases hr : rows[p.1]? with
    | none => rw [hr] at hs; cases hs
    | some r =>
      rw [hr] at hs
      simp only at hs
      cases hB : beh (tch nm r) p.2 with
      | none => rw [hB] at hs; cases hs
      | some s =>
        rw [hB] at hs
        simp only at hs
        obtain ⟨t, ht, hk⟩ := List.mem_map.mp hs
        obtain ⟨ht1, ht2⟩ := List.mem_filter.mp ht
        have ht3 : t ∉ keeps := by simpa using ht2
        subst hk
        have lenp : (w0 ++ [p.1]).length = w0.length + 1 := by simp
        have atp : (w0 ++ [p.1])[w0.length]? = some p.1 := get_len _ _
        have low : ∀ {i : Nat}, i < w0.length + 1 → (w0 ++ [p.1] ++ [t])[i]? = (w0 ++ [p.1])[i]? := fun {i} hi => List.getElem?_append_left (by rw [lenp]; exact hi)
        have top : (w0 ++ [p.1] ++ [t])[w0.length + 1]? = some t := by
          rw [← lenp]
          exact get_len _ _
        have len2 : (w0 ++ [p.1] ++ [t]).length = w0.length + 2 := by simp
        refine ⟨w0 ++ [p.1], by rw [List.map_cons, List.reverse_cons, e0], ⟨fun x hx => ?_, fun i x y h1 h2 => ?_, fun x hx => ?_⟩, ?_⟩
        · rw [low (by omega)] at hx
          exact W.first x hx
        · have hi : i + 1 < w0.length + 2 := by rw [← len2]; exact (List.getElem?_eq_some_iff.mp h2).1
          rw [low (by omega)] at h1
          by_cases q : i + 1 < w0.length + 1
          · rw [low q] at h2
            exact W.next i x y h1 h2
          · obtain rfl : i = w0.length := by omega
            rw [top] at h2
            rw [atp] at h1
            cases h1
            cases h2
            exact ⟨ht3, r, hr, ht1⟩
        · rcases List.mem_append.mp hx with z | z
          · exact W.lt x z
          · rw [List.mem_singleton.mp z]
            exact hled p.1 r hr t ht1
        · have tkp : atB rows (tkR nm) p.1 = tkR nm r := by unfold atB; rw [hr]
          have stp : atB rows (stR nm) p.1 = stR nm r := by unfold atB; rw [hr]
          have hB' := hB
          unfold beh at hB'
          have hs : s = (p.2 || tkR nm r) := by
            split at hB'
            · cases hB'
            · exact (Option.some.inj hB').symm
          have nst : p.2 = false → stR nm r = false := fun q => by
            split at hB'
            · cases hB'
            · rename_i w
              unfold stR
              exact decide_eq_false fun z => w ⟨z, q⟩
          cases hp : p.2 with
          | true =>
            obtain ⟨j, x, j1, j2, j3, j4⟩ := Fl.yes hp
            rw [lenp] at j1
            refine ⟨fun _ => ⟨j, x, by rw [len2]; omega, by rw [low (by omega)]; exact j2, j3, fun i y hi hy => j4 i y hi (by rw [low (by omega)] at hy; exact hy)⟩, fun q => ?_⟩
            rw [hs, hp] at q
            cases q
          | false =>
            rw [hp, Bool.false_or] at hs
            have bef : ∀ (i y : Nat), i < w0.length → (w0 ++ [p.1] ++ [t])[i]? = some y → atB rows (tkR nm) y = false ∧ atB rows (stR nm) y = false := fun i y hi hy => Fl.no hp i y (by rw [lenp]; omega) (by rw [low (by omega)] at hy; exact hy)
            refine ⟨fun q => ⟨w0.length, p.1, by rw [len2]; omega, by rw [low (by omega)]; exact atp, by rw [tkp, ← hs]; exact q, bef⟩, fun q i y hi hy => ?_⟩
            rw [len2] at hi
            by_cases e : i < w0.length
            · exact bef i y e hy
            · obtain rfl : i = w0.length := by omega
              rw [low (by omega), atp] at hy
              cases hy
              exact ⟨by rw [tkp, ← hs]; exact q, by rw [stp]; exact nst hp⟩
/-! ### ranges and those of them that are so -/
theorem rg_iN (n : Nat) : rgD 0 n = iN (List.range n) := by
  unfold rgD iN
  refine List.map_congr_left fun i _ => ?_
  rw [Int.zero_add]
theorem filter_first {p : Nat → Bool} {n j : Nat} (hj : j < n) (hp : p j = true) (hb : ∀ i, i < j → p i = false) : ∃ rest, (List.range n).filter p = j :: rest ∧ ∀ i ∈ rest, j < i := by
  obtain ⟨m, rfl⟩ : ∃ m, n = j + (m + 1) := ⟨n - j - 1, by omega⟩
  rw [List.range_add, List.filter_append]
  have e1 : (List.range j).filter p = [] := List.filter_eq_nil_iff.mpr fun i hi => by simp [hb i (List.mem_range.mp hi)]
  rw [e1, List.nil_append, List.range_succ_eq_map, List.map_cons, List.filter_cons_of_pos (by simpa using hp)]
  refine ⟨_, by rw [Nat.add_zero], fun i hi => ?_⟩
  obtain ⟨x, hx, rfl⟩ := List.mem_map.mp (List.mem_filter.mp hi).1
  obtain ⟨y, _, rfl⟩ := List.mem_map.mp hx
  omega
theorem filter_last {p : Nat → Bool} {n : Nat} (hp : p n = true) : ∃ init, (List.range (n + 1)).filter p = init ++ [n] := by
  rw [List.range_succ, List.filter_append]
  refine ⟨(List.range n).filter p, ?_⟩
  rw [List.filter_cons_of_pos hp]
  rfl
/-! ### what the law asks of a way -/
theorem in_dkb {kp : List Nat} {x : Nat} {neg : Bool} {S : Sto} : pIn neg (.int x) (.dik .bor (snK kp) (snV kp)) S = some (.bl (if neg then !decide (x ∈ kp) else decide (x ∈ kp)), S) := by
  have h2 : getD S (.dik .bor (snK kp) (snV kp)) (.int x) = some (lkD (snK kp) (snV kp) (.inl (x : Int))) := rfl
  show (match getD S (.dik .bor (snK kp) (snV kp)) (.int x) with | some o => some (DV.bl (if neg then !o.isSome else o.isSome), S) | none => none) = _
  simp only [h2, lk_sn]
theorem whole_eq (i : Int) : pureOf F_law_whole [.int i] = some (.bl true) := by
  refine pureOf_of (S' := []) ?_ rfl
  unfold F_law_whole b_law_whole runF
  rfl
theorem ix_bor {S : Sto} {ds : List DV} {i : Int} {d : DV} (h : atD ds i = some d) : pIx (.lst .bor ds) (.int i) S = some (d, S) := by
  unfold pIx
  simp only [asL, h]
theorem atD_last {ds : List DV} {d : DV} : atD (ds ++ [d]) (-1) = some d := by
  have e : ixN (ds ++ [d]).length (-1) = some ds.length := by
    rw [List.length_append, List.length_singleton]
    unfold ixN
    rw [if_neg (by decide), if_pos (by omega)]
    congr 1
    omega
  unfold atD
  rw [e]
  exact get_len _ _
end Lk34

namespace Lk34
open PySem PySem.Spec PyProof.Rows L2 Dn
theorem iN_plain (w : List Nat) : plainL (iN w) = true := plainL_iff.mpr fun d hd => by
  obtain ⟨n, _, rfl⟩ := List.mem_map.mp hd
  rfl
theorem iN_good (w : List Nat) : goodL (iN w) = true ∧ deepL (iN w) = 0 := by
  induction w with
  | nil => exact ⟨rfl, rfl⟩
  | cons n w ih =>
    refine ⟨ih.1, ?_⟩
    show max 0 (deepL (iN w)) = 0
    rw [ih.2] <;> rfl
theorem cpD_bor {S : Sto} {k : LK} {ds : List DV} (h : plainL ds = true) : cpD true S (.lst k ds) = some (.lst k ds) := by
  show mapD true _ (.lst k ds) = _
  unfold mapD
  rw [if_neg (by simp), mapDL_plain h]
theorem eq_nil {S : Sto} {k : LK} {w : List Nat} (neg : Bool) : pEq neg (.lst k (iN w)) (.lst .own []) S = some (.bl (if neg then !decide (w = []) else decide (w = [])), S) := by
  obtain ⟨g1, g2⟩ := iN_good w
  obtain ⟨p, h1, h2, h3⟩ := toPyL_good g1
  have t : toPy (.lst k (iN w)) = some (.list p) := by
    unfold toPy
    rw [h1]
  have s1 : SeqAt.shaped (.list p) = true := by
    unfold SeqAt.shaped
    rw [show (PyData.list p).canLay0 = true from h2, decide_eq_true (show (PyData.list p).depth ≤ 64 from by show PyData.depthAll p + 1 ≤ 64; omega)] <;> rfl
  have e : eqDeep S (.lst k (iN w)) (.lst .own []) = some (PyData.eqv (.list p) (.list [])) := by
    unfold eqDeep
    simp only [cpD_bor (iN_plain w), t, show cpD true S (.lst .own []) = some (.lst .own []) from rfl, show toPy (.lst .own []) = some (.list []) from rfl]
    rw [if_pos ⟨s1, rfl⟩]
  have hp : PyData.eqv (.list p) (.list []) = decide (w = []) := by
    cases w with
    | nil =>
      have : some p = some [] := by rw [← h1] <;> rfl
      cases this
      rfl
    | cons n w =>
      have h1' : toPyL (.int (n : Nat) :: iN w) = some p := h1
      unfold toPyL at h1'
      split at h1'
      · split at h1'
        · cases h1'
          rw [decide_eq_false (by simp)]
          rfl
        · cases h1'
      · cases h1'
  unfold pEq eqD
  rw [show scD (.lst k (iN w)) (.lst .own []) = none by cases w <;> rfl]
  simp only
  rw [e, hp]
/-! ### is_piece -/
abbrev EP_ (rows : List PRow) (kp w : List Nat) (x3 x4 : Option DV) : List (Option DV) := [some (.tup (rows.map PRow.d)), some (.dik .bor (snK kp) (snV kp)), some (.lst .bor (iN w)), x3, x4]
abbrev pcB : DS := dIfS (dOr (dBin (pIn false) (dBin pIx (dVar 2) (dVar 3)) (dVar 1)) (dBin (pIn true) (dBin pIx (dVar 2) (dVar 3)) (dPrim (cP (pureOf F_law_exits) []) (aCons (dVar 0) (aCons (dBin pIx (dVar 2) (dBin pSub (dVar 3) (dC (.int 1)))) aNil))))) (dRet (dC (.bl false))) dNext
section
variable {rows : List PRow} {kp w pl : List Nat} {S : Sto}
theorem rows_plain1 : plain (.tup (rows.map PRow.d)) = true := by
  rw [plain_tup]
  exact rows_plainW
theorem ix_w {i x : Nat} (h : w[i]? = some x) : pIx (.lst .bor (iN w)) (.int i) S = some (.int (x : Nat), S) := ix_bor (atD_nat (by unfold iN; rw [List.getElem?_map, h] <;> rfl))
theorem exits_c {x : Nat} {r : PRow} (h : rows[x]? = some r) : cP (pureOf F_law_exits) [] [.tup (rows.map PRow.d), .int x] S = some (.lst .own (iN (r.led x)), S) := by
  have p : plainL [DV.tup (rows.map PRow.d), .int x] = true := by
    have := rows_plain1 (rows := rows)
    simp [rows_plainW]
  have e : pureOf F_law_exits [.tup (rows.map PRow.d), .int x] = some (.lst .own (iN (r.led x))) := exits_eq h
  simp only [cP_eq, cpL_plain p, e]
theorem pcB_ok (W : WayOk rows pl kp w) {i : Nat} (hi : i + 1 < w.length) {x4 : Option DV} : pcB (EP_ rows kp w (some (.int (1 + (i : Nat)))) x4) S = some (.nx (EP_ rows kp w (some (.int (1 + (i : Nat)))) x4) S) := by
  have hy : w[i + 1]? = some (w[i + 1]'hi) := List.getElem?_eq_getElem hi
  have hx : w[i]? = some (w[i]'(by omega)) := List.getElem?_eq_getElem _
  generalize w[i + 1]'hi = y at hy
  generalize w[i]'(by omega) = x at hx
  obtain ⟨n1, r, hr, n2⟩ := W.next i x y hx hy
  let ρ := EP_ rows kp w (some (.int (1 + (i : Nat)))) x4
  have e1 : dBin pIx (dVar 2) (dVar 3) ρ S = some (.int (y : Nat), S) := by
    have := ix_w (S := S) hy
    rw [show ((i + 1 : Nat) : Int) = 1 + (i : Nat) by omega] at this
    exact this
  have e2 : dBin pIx (dVar 2) (dBin pSub (dVar 3) (dC (.int 1))) ρ S = some (.int (x : Nat), S) := by
    have v2 : dVar 2 ρ S = some (.lst .bor (iN w), S) := rfl
    have v3 : dBin pSub (dVar 3) (dC (.int 1)) ρ S = some (.int (1 + (i : Nat) - 1), S) := rfl
    rw [v_bin, v2]
    simp only [v3]
    rw [show (1 + (i : Nat) - 1 : Int) = (i : Nat) by omega]
    exact ix_w hx
  have e3 : dBin (pIn false) (dBin pIx (dVar 2) (dVar 3)) (dVar 1) ρ S = some (.bl false, S) := by
    have v1 : dVar 1 ρ S = some (.dik .bor (snK kp) (snV kp), S) := rfl
    rw [v_bin, e1]
    simp only [v1, in_dkb]
    simp [n1]
  have e4 : dPrim (cP (pureOf F_law_exits) []) (aCons (dVar 0) (aCons (dBin pIx (dVar 2) (dBin pSub (dVar 3) (dC (.int 1)))) aNil)) ρ S = some (.lst .own (iN (r.led x)), S) := by
    have v0 : dVar 0 ρ S = some (.tup (rows.map PRow.d), S) := rfl
    rw [v_prim, v_cons, v0]
    simp only [v_cons, v_nil, e2]
    rw [exits_c hr]
  have e5 : dBin (pIn true) (dBin pIx (dVar 2) (dVar 3)) (dPrim (cP (pureOf F_law_exits) []) (aCons (dVar 0) (aCons (dBin pIx (dVar 2) (dBin pSub (dVar 3) (dC (.int 1)))) aNil))) ρ S = some (.bl false, S) := by
    rw [v_bin, e1]
    simp only [e4, in_own_int]
    simp [n2]
  show dIfS _ _ _ ρ S = _
  rw [v_ifS, Dn.v_or, e3]
  simp only
  rw [e5]
  rfl
theorem piece_eq (W : WayOk rows pl kp w) (hpl : ∀ n ∈ pl, n = 0 ∨ n ∈ kp) (h0 : 0 < w.length) (hz : w.length < 10000) : pureOf F_law_is_piece [.tup (rows.map PRow.d), .dik .bor (snK kp) (snV kp), .lst .bor (iN w)] = some (.bl true) := by
  refine pureOf_of (S' := []) ?_ rfl
  have hx : w[0]? = some (w[0]'h0) := List.getElem?_eq_getElem h0
  generalize w[0]'h0 = x at hx
  have hx0 : x = 0 ∨ x ∈ kp := hpl x (W.first x hx)
  let ρ := EP_ rows kp w none none
  have ne : ¬ w = [] := fun e => by rw [e] at h0; cases h0
  have t1 : dIsi .list (dVar 2) ρ [] = some (.bl true, []) := rfl
  have t2 : dBin (pEq false) (dVar 2) (dPrim pLst aNil) ρ [] = some (.bl false, []) := by
    have v2 : dVar 2 ρ ([] : Sto) = some (.lst .bor (iN w), []) := rfl
    have v3 : dPrim pLst aNil ρ ([] : Sto) = some (.lst .own [], []) := rfl
    rw [v_bin, v2]
    simp only [v3, eq_nil]
    simp [ne]
  have t3 : dPrim pAll (aCons (dLc (iSeq (dVar 2)) (gSet 4) (dC (.bl true)) (dPrim (cP (pureOf F_law_whole) []) (aCons (dVar 4) aNil)) [4]) aNil) ρ [] = some (.bl true, []) := by
    have hl : lcL (gSet 4) (dC (.bl true)) (dPrim (cP (pureOf F_law_whole) []) (aCons (dVar 4) aNil)) ρ (iN w) [] = some ((iN w).map fun _ => DV.bl true, []) := lcL_map fun d hd => by
      obtain ⟨n, _, rfl⟩ := List.mem_map.mp hd
      refine ⟨EP_ rows kp w none (some (.int n)), rfl, rfl, ?_⟩
      have a0 : aCons (dVar 4) aNil (EP_ rows kp w none (some (.int (n : Nat)))) ([] : Sto) = some ([.int n], []) := rfl
      rw [v_prim]
      simp only [a0, cP_eq, cpL_plain (show plainL [DV.int (n : Nat)] = true from rfl), whole_eq]
    have e := dLc_of (it := iSeq (dVar 2)) (vs := [4]) (ρ := ρ) (S := []) (S1 := []) (ds := iN w) rfl (by rw [show dwipe ρ [4] = ρ from rfl]; exact hl) (size_ok (by rw [List.length_map, iN_len]; omega))
    have al : pAll [.lst .own ((iN w).map fun _ => DV.bl true)] [] = some (.bl true, []) := by
      have bl : ∀ l : List DV, blsD (l.map fun _ => DV.bl true) = some (l.map fun _ => true) := fun l => by
        induction l with
        | nil => rfl
        | cons d l ih =>
          rw [List.map_cons, List.map_cons]
          unfold blsD
          rw [ih]
      unfold pAll
      simp only [asL, bl]
      have : ((iN w).map fun _ => true).all id = true := List.all_eq_true.mpr fun b hb => by
        obtain ⟨_, _, rfl⟩ := List.mem_map.mp hb
        rfl
      rw [this]
    rw [v_prim, v_cons, e]
    simp only [v_nil, al]
  have s1 : dIfS (dOr (dNot (dIsi .list (dVar 2))) (dOr (dBin (pEq false) (dVar 2) (dPrim pLst aNil)) (dNot (dPrim pAll (aCons (dLc (iSeq (dVar 2)) (gSet 4) (dC (.bl true)) (dPrim (cP (pureOf F_law_whole) []) (aCons (dVar 4) aNil)) [4]) aNil))))) (dRet (dC (.bl false))) dNext ρ [] = some (.nx ρ []) := by
    rw [v_ifS, Dn.v_or, Dn.v_not, t1]
    simp only [Bool.not_true]
    rw [Dn.v_or, t2]
    simp only
    rw [Dn.v_not, t3]
    rfl
  have a0 : dBin pIx (dVar 2) (dC (.int 0)) ρ [] = some (.int (x : Nat), []) := by
    have := ix_w (S := []) hx
    exact this
  have s2 : dIfS (dAnd (dBin (pEq true) (dBin pIx (dVar 2) (dC (.int 0))) (dC (.int 0))) (dBin (pIn true) (dBin pIx (dVar 2) (dC (.int 0))) (dVar 1))) (dRet (dC (.bl false))) dNext ρ [] = some (.nx ρ []) := by
    rw [v_ifS, Dn.v_and, v_bin, a0]
    simp only [v_c, v_neI]
    by_cases q : x = 0
    · subst q
      rfl
    · have q2 : ¬ ((x : Nat) : Int) = 0 := by omega
      have q3 : x ∈ kp := hx0.resolve_left q
      rw [decide_eq_false q2]
      simp only [Bool.not_false]
      have v1 : dVar 1 ρ ([] : Sto) = some (.dik .bor (snK kp) (snV kp), []) := rfl
      rw [v_bin, a0]
      simp only [v1, in_dkb]
      simp [q3]
  obtain ⟨ρ', S', el, y3, rfl, rfl⟩ := forL_inv (g := gSet 3) (body := pcB) (I := fun i ρ S => ∃ y3, ρ = EP_ rows kp w y3 none ∧ S = []) (ds := rgD 1 (w.length - 1)) (k := 0) (ρ := ρ) (S := []) ⟨none, rfl, rfl⟩ fun i d ρ S hd hi => by
    obtain ⟨y3, rfl, rfl⟩ := hi
    have hd2 : i < w.length - 1 ∧ d = .int (1 + (i : Nat)) := by
      unfold rgD at hd
      rw [List.getElem?_map] at hd
      cases hg : (List.range (w.length - 1))[i]? with
      | none => rw [hg] at hd; cases hd
      | some j =>
        rw [hg] at hd
        obtain ⟨h1, h2⟩ := List.getElem?_eq_some_iff.mp hg
        rw [List.getElem_range] at h2
        rw [List.length_range] at h1
        cases hd
        rw [← h2]
        exact ⟨h1, rfl⟩
    obtain ⟨hi2, rfl⟩ := hd2
    exact ⟨_, _, _, _, rfl, .inl (pcB_ok W (by omega)), _, rfl, rfl⟩
  have ir : iRange2 (aCons (dC (.int 1)) (aCons (dPrim pLen (aCons (dVar 2) aNil)) aNil)) ρ [] = some (rgD 1 (w.length - 1), []) := by
    have l2 : dPrim pLen (aCons (dVar 2) aNil) ρ ([] : Sto) = some (.int w.length, []) := by
      show some (DV.int ((iN w).length : Nat), ([] : Sto)) = _
      rw [iN_len]
    unfold iRange2
    simp only [v_cons, v_nil, v_c, l2]
    rw [if_pos ⟨by decide, by omega⟩, show ((w.length : Int) - 1).toNat = w.length - 1 by omega]
  unfold F_law_is_piece b_law_is_piece runF
  show (match (dSeq _ _ ρ [] : Option Out) with | some (.rt d S') => some (d, S') | some (.nx _ S') => some (.non, S') | _ => none) = _
  rw [v_seq, s1]
  simp only
  rw [v_seq, s2]
  simp only
  rw [v_seq, v_for, ir]
  simp only
  rw [show forL (gSet 3) pcB (rgD 1 (w.length - 1)) ρ [] = _ from el]
  rfl
end
end Lk34

namespace Lk34
open PySem PySem.Spec PyProof.Rows L2 Dn
/-! ### what touches, as the law looks -/
abbrev tkC (x : DE) (n : DE) : DE := dAnd (dBin (pIn false) (dBin pIx x (dC (.int 0))) (dPrim pTup (aCons (dC (.str "load")) (aCons (dC (.str "take")) aNil)))) (dBin (pEq false) (dBin pIx x (dC (.int 2))) n)
abbrev ptC (x : DE) (n : DE) : DE := dAnd (dBin (pIn false) (dBin pIx x (dC (.int 0))) (dPrim pTup (aCons (dC (.str "store")) (aCons (dC (.str "lay")) aNil)))) (dBin (pEq false) (dBin pIx x (dC (.int 1))) n)
section
variable {ρ : List (Option DV)} {S : Sto} {x n : DE} {r : PRow} {nm : Str}
theorem tkC_ok (hx : x ρ S = some (r.d, S)) (hn : n ρ S = some (.str nm, S)) : tkC x n ρ S = some (.bl (tkR nm r), S) := by
  have tp : dPrim pTup (aCons (dC (.str "load")) (aCons (dC (.str "take")) aNil)) ρ S = some (.tup [.str "load", .str "take"], S) := rfl
  have ix : ∀ i : Int, dBin pIx x (dC (.int i)) ρ S = pIx r.d (.int i) S := fun i => by
    rw [v_bin, hx]
    rfl
  have kind : ∀ k : Str, pIx r.d (.int 0) S = some (.str k, S) → dBin (pIn false) (dBin pIx x (dC (.int 0))) (dPrim pTup (aCons (dC (.str "load")) (aCons (dC (.str "take")) aNil))) ρ S = some (.bl (decide (k = "load") || decide (k = "take")), S) := fun k h => by
    rw [v_bin, ix, h]
    simp only [tp, in_2]
  have no : ∀ k : Str, pIx r.d (.int 0) S = some (.str k, S) → (decide (k = "load") || decide (k = "take")) = false → tkR nm r = false → tkC x n ρ S = some (.bl (tkR nm r), S) := fun k h1 h2 h3 => by
    show dAnd _ _ _ _ = _
    rw [Dn.v_and, kind k h1, h2, h3]
  have yes : ∀ (k c : Str), pIx r.d (.int 0) S = some (.str k, S) → (decide (k = "load") || decide (k = "take")) = true → pIx r.d (.int 2) S = some (.str c, S) → tkR nm r = decide (c = nm) → tkC x n ρ S = some (.bl (tkR nm r), S) := fun k c h1 h2 h3 h4 => by
    show dAnd _ _ _ _ = _
    rw [Dn.v_and, kind k h1, h2, h4]
    simp only
    rw [v_bin, ix, h3]
    simp only [hn, v_eqS]
  cases r with
  | load b c =>
    refine yes "load" c rfl rfl rfl ?_
    unfold tkR tch
    by_cases q : c = nm <;> simp [q]
  | take b c a =>
    refine yes "take" c rfl rfl rfl ?_
    unfold tkR tch
    by_cases q : c = nm <;> simp [q]
  | store c a =>
    refine no "store" rfl rfl ?_
    unfold tkR tch
    by_cases q : c = nm <;> simp [q]
  | lay c a b =>
    refine no "lay" rfl rfl ?_
    unfold tkR tch
    by_cases q : c = nm <;> simp [q]
  | say a => exact no "say" rfl rfl rfl
  | copy y a => exact no "copy" rfl rfl rfl
  | op y s a b => exact no "op" rfl rfl rfl
  | hear y => exact no "hear" rfl rfl rfl
  | ifr a m => exact no "if" rfl rfl rfl
  | go m => exact no "go" rfl rfl rfl
  | endr a => exact no "end" rfl rfl rfl
theorem ptC_ok (hx : x ρ S = some (r.d, S)) (hn : n ρ S = some (.str nm, S)) : ptC x n ρ S = some (.bl (ptR nm r), S) := by
  have tp : dPrim pTup (aCons (dC (.str "store")) (aCons (dC (.str "lay")) aNil)) ρ S = some (.tup [.str "store", .str "lay"], S) := rfl
  have ix : ∀ i : Int, dBin pIx x (dC (.int i)) ρ S = pIx r.d (.int i) S := fun i => by
    rw [v_bin, hx]
    rfl
  have kind : ∀ k : Str, pIx r.d (.int 0) S = some (.str k, S) → dBin (pIn false) (dBin pIx x (dC (.int 0))) (dPrim pTup (aCons (dC (.str "store")) (aCons (dC (.str "lay")) aNil))) ρ S = some (.bl (decide (k = "store") || decide (k = "lay")), S) := fun k h => by
    rw [v_bin, ix, h]
    simp only [tp, in_2]
  have no : ∀ k : Str, pIx r.d (.int 0) S = some (.str k, S) → (decide (k = "store") || decide (k = "lay")) = false → ptR nm r = false → ptC x n ρ S = some (.bl (ptR nm r), S) := fun k h1 h2 h3 => by
    show dAnd _ _ _ _ = _
    rw [Dn.v_and, kind k h1, h2, h3]
  have yes : ∀ (k c : Str), pIx r.d (.int 0) S = some (.str k, S) → (decide (k = "store") || decide (k = "lay")) = true → pIx r.d (.int 1) S = some (.str c, S) → ptR nm r = decide (c = nm) → ptC x n ρ S = some (.bl (ptR nm r), S) := fun k c h1 h2 h3 h4 => by
    show dAnd _ _ _ _ = _
    rw [Dn.v_and, kind k h1, h2, h4]
    simp only
    rw [v_bin, ix, h3]
    simp only [hn, v_eqS]
  cases r with
  | store c a =>
    refine yes "store" c rfl rfl rfl ?_
    unfold ptR tch
    by_cases q : c = nm <;> simp [q]
  | lay c a b =>
    refine yes "lay" c rfl rfl rfl ?_
    unfold ptR tch
    by_cases q : c = nm <;> simp [q]
  | load b c =>
    refine no "load" rfl rfl ?_
    unfold ptR tch
    by_cases q : c = nm <;> simp [q]
  | take b c a =>
    refine no "take" rfl rfl ?_
    unfold ptR tch
    by_cases q : c = nm <;> simp [q]
  | say a => exact no "say" rfl rfl rfl
  | copy y a => exact no "copy" rfl rfl rfl
  | op y s a b => exact no "op" rfl rfl rfl
  | hear y => exact no "hear" rfl rfl rfl
  | ifr a m => exact no "if" rfl rfl rfl
  | go m => exact no "go" rfl rfl rfl
  | endr a => exact no "end" rfl rfl rfl
end
/-! ### spoils -/
abbrev EO (rows : List PRow) (w : List Nat) (nm : Str) (sh : Bool) (x4 x5 x6 : Option DV) : List (Option DV) := [some (.tup (rows.map PRow.d)), some (.lst .bor (iN w)), some (.str nm), some (.bl sh), x4, x5, x6]
abbrev rowAt : DE := dBin pIx (dVar 0) (dBin pIx (dVar 1) (dVar 6))
theorem iN_filter {p : Nat → Bool} {g : DG} {c fe : DE} {ρ : List (Option DV)} {S : Sto} {n : Nat} (h : ∀ i < n, ∃ ρ1, g (.int (i : Nat)) ρ S = some (ρ1, S) ∧ c ρ1 S = some (.bl (p i), S) ∧ fe ρ1 S = some (.int (i : Nat), S)) :
    lcL g c fe ρ (rgD 0 n) S = some (iN ((List.range n).filter p), S) := by
  rw [rg_iN]
  exact lcL_filter (D := fun (n : Nat) => DV.int n) fun i hi => h i (List.mem_range.mp hi)
section
variable {rows : List PRow} {w : List Nat} {nm : Str} {sh : Bool} {x4 x5 : Option DV}
def ixB (rows : List PRow) (w : List Nat) (p : PRow → Bool) (i : Nat) : Bool := match w[i]? with
  | some x => atB rows p x
  | none => false
theorem rowAt_ok {S : Sto} {i x : Nat} {r : PRow} (hx : w[i]? = some x) (hr : rows[x]? = some r) : rowAt (EO rows w nm sh x4 x5 (some (.int i))) S = some (r.d, S) := by
  have e1 : dBin pIx (dVar 1) (dVar 6) (EO rows w nm sh x4 x5 (some (.int (i : Nat)))) S = some (.int (x : Nat), S) := ix_w hx
  have v0 : dVar 0 (EO rows w nm sh x4 x5 (some (.int (i : Nat)))) S = some (.tup (rows.map PRow.d), S) := rfl
  show dBin _ _ _ _ _ = _
  rw [v_bin, v0]
  simp only [e1]
  exact ix_tup (atD_nat (by rw [List.getElem?_map, hr] <;> rfl))
theorem comp_ok {S : Sto} (hlt : ∀ x ∈ w, x < rows.length) (hz : w.length < 10000) (p : PRow → Bool) (C : DE)
    (hC : ∀ (i x : Nat) (r : PRow), w[i]? = some x → rows[x]? = some r → C (EO rows w nm sh x4 x5 (some (.int i))) S = some (.bl (p r), S)) :
    dLc (iRange1 (aCons (dPrim pLen (aCons (dVar 1) aNil)) aNil)) (gSet 6) C (dVar 6) [6] (EO rows w nm sh x4 x5 none) S = some (.lst .own (iN ((List.range w.length).filter (ixB rows w p))), S) := by
  have ir : iRange1 (aCons (dPrim pLen (aCons (dVar 1) aNil)) aNil) (EO rows w nm sh x4 x5 none) S = some (rgD 0 w.length, S) := by
    have l2 : dPrim pLen (aCons (dVar 1) aNil) (EO rows w nm sh x4 x5 none) S = some (.int w.length, S) := by
      show some (DV.int ((iN w).length : Nat), S) = _
      rw [iN_len]
    unfold iRange1
    simp only [v_cons, v_nil, l2]
    rw [if_pos (by omega), Int.toNat_natCast]
  refine dLc_of ir ?_ (size_ok (by
    rw [iN_len]
    have := List.length_filter_le (ixB rows w p) (List.range w.length)
    rw [List.length_range] at this
    omega))
  rw [show dwipe (EO rows w nm sh x4 x5 none) [6] = EO rows w nm sh x4 x5 none from rfl]
  refine iN_filter fun i hi => ?_
  have hx : w[i]? = some (w[i]'hi) := List.getElem?_eq_getElem hi
  have hm : w[i]'hi ∈ w := List.getElem_mem hi
  generalize w[i]'hi = x at hx hm
  have hl := hlt x hm
  have hr : rows[x]? = some (rows[x]'hl) := List.getElem?_eq_getElem hl
  generalize rows[x]'hl = r at hr
  refine ⟨EO rows w nm sh x4 x5 (some (.int i)), rfl, ?_, rfl⟩
  rw [hC i x r hx hr]
  unfold ixB atB
  rw [hx]
  simp only [hr]
theorem spoils_eq {pl kp : List Nat} (W : WayOk rows pl kp w) {w0 : List Nat} {k : Nat} (ew : w = w0 ++ [k]) (hz : w.length < 10000) (hk : atB rows (ptR nm) k = true)
    {j x : Nat} (j1 : j + 1 < w.length) (j2 : w[j]? = some x) (j3 : atB rows (tkR nm) x = true) (j4 : ∀ (i y : Nat), i < j → w[i]? = some y → atB rows (tkR nm) y = false ∧ atB rows (stR nm) y = false)
    (hsh : sh = true ∨ ∀ r ∈ rows, ptR nm r = stR nm r) : pureOf F_law_spoils [.tup (rows.map PRow.d), .lst .bor (iN w), .str nm, .bl sh] = some (.bl true) := by
  refine pureOf_of (S' := []) ?_ rfl
  let n := w.length
  let T := (List.range n).filter (ixB rows w (tkR nm))
  let Q := (List.range n).filter (ixB rows w (ptR nm))
  have c1 : dSet 4 (dLc (iRange1 (aCons (dPrim pLen (aCons (dVar 1) aNil)) aNil)) (gSet 6) (tkC rowAt (dVar 2)) (dVar 6) [6]) (EO rows w nm sh none none none) [] = some (.nx (EO rows w nm sh (some (.lst .own (iN T))) none none) []) := by
    rw [v_set, comp_ok W.lt hz (tkR nm) _ fun i x r hx hr => tkC_ok (rowAt_ok hx hr) rfl]
    rfl
  have c2 : dSet 5 (dLc (iRange1 (aCons (dPrim pLen (aCons (dVar 1) aNil)) aNil)) (gSet 6) (ptC rowAt (dVar 2)) (dVar 6) [6]) (EO rows w nm sh (some (.lst .own (iN T))) none none) [] = some (.nx (EO rows w nm sh (some (.lst .own (iN T))) (some (.lst .own (iN Q))) none) []) := by
    rw [v_set, comp_ok W.lt hz (ptR nm) _ fun i x r hx hr => ptC_ok (rowAt_ok hx hr) rfl]
    rfl
  have hn : n = w0.length + 1 := by
    show w.length = _
    rw [ew, List.length_append]
    rfl
  have lastQ : ∃ init, Q = init ++ [w0.length] := by
    show ∃ init, (List.range n).filter _ = _
    rw [hn]
    refine filter_last ?_
    unfold ixB
    rw [ew, get_len]
    exact hk
  obtain ⟨init, hQ⟩ := lastQ
  obtain ⟨rest, hT, _⟩ := filter_first (p := ixB rows w (tkR nm)) (n := n) (j := j) (by show j < w.length; omega) (by unfold ixB; rw [j2]; exact j3) (fun i hi => by
    unfold ixB
    cases hy : w[i]? with
    | none => rfl
    | some y => exact (j4 i y hi hy).1)
  have hT : T = j :: rest := hT
  have firstQ : ∀ m ms, Q = m :: ms → sh = true ∨ j < m := fun m ms e => by
    rcases hsh with h | h
    · exact .inl h
    · refine .inr ?_
      have hm : m ∈ Q := by rw [e]; exact List.mem_cons_self
      have hp := (List.mem_filter.mp hm).2
      unfold ixB at hp
      cases hy : w[m]? with
      | none => rw [hy] at hp; cases hp
      | some y =>
        rw [hy] at hp
        simp only at hp
        have same : atB rows (stR nm) y = true := by
          unfold atB at hp ⊢
          cases hr : rows[y]? with
          | none => rw [hr] at hp; cases hp
          | some r =>
            rw [hr] at hp
            simp only at hp ⊢
            rw [← h r (List.mem_of_getElem? hr)]
            exact hp
        rcases Nat.lt_trichotomy m j with q | q | q
        · rw [(j4 m y q hy).2] at same
          cases same
        · subst q
          rw [j2] at hy
          cases hy
          exfalso
          unfold atB at j3 hp
          cases hr : rows[x]? with
          | none => rw [hr] at hp; cases hp
          | some r =>
            rw [hr] at hp j3
            simp only [tkR, ptR, Bool.or_eq_true, decide_eq_true_eq] at hp j3
            rcases hp with a | a <;> rcases j3 with b | b <;> (rw [a] at b; revert b; decide +kernel)
        · exact q
  let ρ := EO rows w nm sh (some (.lst .own (iN T))) (some (.lst .own (iN Q))) none
  have lastIx : dBin pIx (dVar 5) (dUn pNeg (dC (.int 1))) ρ [] = some (.int (w0.length : Nat), []) := by
    have : pIx (.lst .own (iN Q)) (.int (-1)) [] = some (.int (w0.length : Nat), []) := by
      refine ix_own ?_
      rw [hQ, iN_app]
      exact atD_last
    exact this
  have t0 : dBin pIx (dVar 4) (dC (.int 0)) ρ [] = some (.int (j : Nat), []) := by
    have : pIx (.lst .own (iN T)) (.int 0) [] = some (.int (j : Nat), []) := by
      refine ix_own ?_
      rw [hT]
      exact atD_nat (k := 0) rfl
    exact this
  have qne : ¬ Q = [] := by rw [hQ]; simp
  have tne : ¬ T = [] := by rw [hT]; simp
  have l1 : dPrim pLen (aCons (dVar 1) aNil) ρ [] = some (.int n, []) := by
    show some (DV.int ((iN w).length : Nat), ([] : Sto)) = _
    rw [iN_len]
  have nil0 : dPrim pLst aNil ρ ([] : Sto) = some (.lst .own [], []) := rfl
  have v5 : dVar 5 ρ ([] : Sto) = some (.lst .own (iN Q), []) := rfl
  have v4 : dVar 4 ρ ([] : Sto) = some (.lst .own (iN T), []) := rfl
  have s3 : dIfS (dOr (dBin (pEq false) (dVar 5) (dPrim pLst aNil)) (dOr (dBin (pEq true) (dBin pIx (dVar 5) (dUn pNeg (dC (.int 1)))) (dBin pSub (dPrim pLen (aCons (dVar 1) aNil)) (dC (.int 1)))) (dBin (pEq false) (dVar 4) (dPrim pLst aNil)))) (dRet (dC (.bl false))) dNext ρ [] = some (.nx ρ []) := by
    have b1 : dBin (pEq false) (dVar 5) (dPrim pLst aNil) ρ [] = some (.bl false, []) := by
      rw [v_bin, v5]
      simp only [nil0, eq_nil]
      simp [qne]
    have b2 : dBin (pEq true) (dBin pIx (dVar 5) (dUn pNeg (dC (.int 1)))) (dBin pSub (dPrim pLen (aCons (dVar 1) aNil)) (dC (.int 1))) ρ [] = some (.bl false, []) := by
      rw [v_bin, lastIx]
      simp only
      rw [v_bin, l1]
      simp only [v_c, v_subI, v_neI]
      rw [decide_eq_true (by omega)]
      rfl
    have b3 : dBin (pEq false) (dVar 4) (dPrim pLst aNil) ρ [] = some (.bl false, []) := by
      rw [v_bin, v4]
      simp only [nil0, eq_nil]
      simp [tne]
    rw [v_ifS, Dn.v_or, b1]
    simp only
    rw [Dn.v_or, b2]
    simp only
    rw [b3]
    rfl
  have s4 : dRet (dAnd (dBin pLt (dBin pIx (dVar 4) (dC (.int 0))) (dBin pIx (dVar 5) (dUn pNeg (dC (.int 1))))) (dOr (dVar 3) (dBin pLt (dBin pIx (dVar 4) (dC (.int 0))) (dBin pIx (dVar 5) (dC (.int 0)))))) ρ [] = some (.rt (.bl true) []) := by
    have b1 : dBin pLt (dBin pIx (dVar 4) (dC (.int 0))) (dBin pIx (dVar 5) (dUn pNeg (dC (.int 1)))) ρ [] = some (.bl true, []) := by
      rw [v_bin, t0]
      simp only [lastIx, Dn.v_lt]
      rw [decide_eq_true (by omega)]
    have v3 : dVar 3 ρ ([] : Sto) = some (.bl sh, []) := rfl
    rw [v_ret, Dn.v_and, b1]
    simp only
    rw [Dn.v_or, v3]
    cases hs : sh with
    | true => rfl
    | false =>
      simp only
      cases hq : Q with
      | nil => exact absurd hq qne
      | cons m ms =>
        have hjm : j < m := (firstQ m ms hq).resolve_left (by rw [hs]; simp)
        have q0 : dBin pIx (dVar 5) (dC (.int 0)) ρ [] = some (.int (m : Nat), []) := by
          have : pIx (.lst .own (iN Q)) (.int 0) [] = some (.int (m : Nat), []) := by
            refine ix_own ?_
            rw [hq]
            exact atD_nat (k := 0) rfl
          exact this
        rw [v_bin, t0]
        simp only [q0, Dn.v_lt]
        rw [decide_eq_true (by omega)]
  unfold F_law_spoils b_law_spoils runF
  show (match (dSeq _ _ (EO rows w nm sh none none none) [] : Option Out) with | some (.rt d S') => some (d, S') | some (.nx _ S') => some (.non, S') | _ => none) = _
  rw [v_seq, c1]
  simp only
  rw [v_seq, c2]
  simp only
  rw [v_seq, s3]
  simp only
  rw [s4]
end
end Lk34

namespace Lk34
open PySem PySem.Spec PyProof.Rows L2 Dn
/-! ### the law's own search -/
abbrev ER (rows : List PRow) (kp : List Nat) (st : DV) (nm : Str) (x6 x7 : Option DV) : List (Option DV) := [some (.tup (rows.map PRow.d)), some (.dik .bor (snK kp) (snV kp)), some st, some (.str nm), some (.loc 0), some (.loc 1), x6, x7]
abbrev rSt (sn lf : List Nat) : Sto := [sk sn, .lst (iN lf)]
abbrev exC : DE := dLc (iSeq (dPrim (cP (pureOf F_law_exits) []) (aCons (dVar 0) (aCons (dVar 6) aNil)))) (gSet 7) (dBin (pIn true) (dVar 7) (dVar 1)) (dVar 7) [7]
abbrev rcC : DE := dBin pGt (dPrim pLen (aCons (dVar 5) aNil)) (dC (.int 0))
abbrev rcB : DS := (dSeq (dSet 6 (dMt pPop0 (dVar 5) aNil))
  (dIfS (dBin (pIn true) (dVar 6) (dVar 4)) (dSeq (dSub (dC (.bl true)) (dVar 4) (dVar 6))
  (dIfS (dOr (dBin (pEq true) (dBin pIx (dBin pIx (dVar 0) (dVar 6)) (dC (.int 0))) (dC (.str "store"))) (dBin (pEq true) (dBin pIx (dBin pIx (dVar 0) (dVar 6)) (dC (.int 1))) (dVar 3))) (dExpr (dMt pExtend (dVar 5) (aCons exC aNil))) dNext)) dNext))
def freeL (kp : List Nat) (l : List Nat) : List Nat := l.filter fun t => !decide (t ∈ kp)
section
variable {rows : List PRow} {kp : List Nat} {st : DV} {nm : Str}
theorem pass_ok {x r : DE} {ρ : List (Option DV)} {S : Sto} {n : DE} {w : PRow} (hx : x ρ S = some (w.d, S)) (hn : n ρ S = some (.str nm, S)) :
    dOr (dBin (pEq true) (dBin pIx x (dC (.int 0))) (dC (.str "store"))) (dBin (pEq true) (dBin pIx x (dC (.int 1))) n) ρ S = some (.bl (!stR nm w), S) := by
  have ix : ∀ i : Int, dBin pIx x (dC (.int i)) ρ S = pIx w.d (.int i) S := fun i => by
    rw [v_bin, hx]
    rfl
  have kind : ∀ k : Str, pIx w.d (.int 0) S = some (.str k, S) → dBin (pEq true) (dBin pIx x (dC (.int 0))) (dC (.str "store")) ρ S = some (.bl (!decide (k = "store")), S) := fun k h => by
    rw [v_bin, ix, h]
    simp only [v_c, v_neS]
  have no : ∀ k : Str, pIx w.d (.int 0) S = some (.str k, S) → decide (k = "store") = false → stR nm w = false → dOr (dBin (pEq true) (dBin pIx x (dC (.int 0))) (dC (.str "store"))) (dBin (pEq true) (dBin pIx x (dC (.int 1))) n) ρ S = some (.bl (!stR nm w), S) := fun k h1 h2 h3 => by
    rw [Dn.v_or, kind k h1, h2, h3]
    rfl
  cases w with
  | store c a =>
    have e : stR nm (.store c a) = decide (c = nm) := by
      unfold stR tch
      by_cases q : c = nm <;> simp [q]
    rw [Dn.v_or, kind "store" rfl, e, decide_eq_true rfl]
    simp only [Bool.not_true]
    rw [v_bin, ix, show pIx (PRow.store c a).d (.int 1) S = some (.str c, S) from rfl]
    simp only [hn, v_neS]
  | lay c a b =>
    refine no "lay" rfl rfl ?_
    unfold stR tch
    by_cases q : c = nm <;> simp [q]
  | load b c =>
    refine no "load" rfl rfl ?_
    unfold stR tch
    by_cases q : c = nm <;> simp [q]
  | take b c a =>
    refine no "take" rfl rfl ?_
    unfold stR tch
    by_cases q : c = nm <;> simp [q]
  | say a => exact no "say" rfl rfl rfl
  | copy y a => exact no "copy" rfl rfl rfl
  | op y s a b => exact no "op" rfl rfl rfl
  | hear y => exact no "hear" rfl rfl rfl
  | ifr a m => exact no "if" rfl rfl rfl
  | go m => exact no "go" rfl rfl rfl
  | endr a => exact no "end" rfl rfl rfl
theorem pop_last {S : Sto} {n : Nat} {x : DV} {xs : List DV} (h : S[n]? = some (.lst (xs ++ [x]))) : pPop0 (.loc n) [] S = some (x, S.set n (.lst xs)) := by
  unfold pPop0
  simp only [h]
  rw [List.length_append, List.length_singleton, Nat.add_sub_cancel, get_len]
  simp only [List.dropLast_concat]
theorem ext_loc {S : Sto} {n : Nat} {k : LK} {xs ys : List DV} (hk : k ≠ .ext) (h : S[n]? = some (.lst xs)) (hz : xs.length + ys.length ≤ 16777216) : pExtend (.loc n) [.lst k ys] S = some (.non, S.set n (.lst (xs ++ ys))) := by
  have e : asT S (.lst k ys) = some ys := by
    cases k with
    | ext => exact absurd rfl hk
    | own => rfl
    | bor => rfl
  unfold pExtend
  simp only [h, e]
  rw [if_pos (by rw [size_eq]; exact hz)]
theorem free_comp {S : Sto} {at_ : Nat} {r : PRow} (hr : rows[at_]? = some r) {x7 : Option DV} : exC (ER rows kp st nm (some (.int at_)) x7) S = some (.lst .own (iN (freeL kp (r.led at_))), S) := by
  have i1 : iSeq (dPrim (cP (pureOf F_law_exits) []) (aCons (dVar 0) (aCons (dVar 6) aNil))) (ER rows kp st nm (some (.int (at_ : Nat))) x7) S = some (iN (r.led at_), S) := by
    have a0 : aCons (dVar 0) (aCons (dVar 6) aNil) (ER rows kp st nm (some (.int (at_ : Nat))) x7) S = some ([.tup (rows.map PRow.d), .int at_], S) := rfl
    have e : dPrim (cP (pureOf F_law_exits) []) (aCons (dVar 0) (aCons (dVar 6) aNil)) (ER rows kp st nm (some (.int (at_ : Nat))) x7) S = some (.lst .own (iN (r.led at_)), S) := by
      rw [v_prim]
      simp only [a0, exits_c hr]
    rw [iSeq_eq, e]
  have hle : (r.led at_).length ≤ 2 := by cases r <;> simp [PRow.led]
  refine dLc_of i1 ?_ (size_ok (by
    rw [iN_len]
    have := List.length_filter_le (fun t => !decide (t ∈ kp)) (r.led at_)
    unfold freeL
    omega))
  rw [show dwipe (ER rows kp st nm (some (.int (at_ : Nat))) x7) [7] = ER rows kp st nm (some (.int (at_ : Nat))) none from rfl]
  exact lcL_filter (D := fun (n : Nat) => DV.int n) fun t ht => ⟨ER rows kp st nm (some (.int at_)) (some (.int t)), rfl, in_dkb (neg := true), rfl⟩
theorem rcB_ok {sn lf : List Nat} {h : Nat} {r : PRow} (hr : rows[h]? = some r) (hz : sn.length < 5000) (hz2 : lf.length < 5000) {x6 x7 : Option DV} :
    ∃ y, rcB (ER rows kp st nm x6 x7) (rSt sn (lf ++ [h])) = some (.nx (ER rows kp st nm (some (.int h)) y) (if h ∈ sn then rSt sn lf else if stR nm r = true then rSt (sn ++ [h]) lf else rSt (sn ++ [h]) (lf ++ freeL kp (r.led h)))) := by
  let ρ := ER rows kp st nm (some (.int h)) x7
  have s1 : dSet 6 (dMt pPop0 (dVar 5) aNil) (ER rows kp st nm x6 x7) (rSt sn (lf ++ [h])) = some (.nx ρ (rSt sn lf)) := by
    have hq : (rSt sn (lf ++ [h]))[1]? = some (.lst (iN lf ++ [.int (h : Nat)])) := by
      show some (Cell.lst (iN (lf ++ [h]))) = _
      rw [iN_app] <;> rfl
    have pp := pop_last hq
    have v5 : dVar 5 (ER rows kp st nm x6 x7) (rSt sn (lf ++ [h])) = some (.loc 1, rSt sn (lf ++ [h])) := rfl
    rw [v_set, v_mt, v5]
    simp only [asL_loc hq, v_nil, pp]
    rfl
  have v0 : ∀ S : Sto, dVar 0 ρ S = some (.tup (rows.map PRow.d), S) := fun _ => rfl
  have v1 : ∀ S : Sto, dVar 1 ρ S = some (.dik .bor (snK kp) (snV kp), S) := fun _ => rfl
  have v3 : ∀ S : Sto, dVar 3 ρ S = some (.str nm, S) := fun _ => rfl
  have v4 : ∀ S : Sto, dVar 4 ρ S = some (.loc 0, S) := fun _ => rfl
  have v5 : ∀ S : Sto, dVar 5 ρ S = some (.loc 1, S) := fun _ => rfl
  have v6 : ∀ S : Sto, dVar 6 ρ S = some (.int (h : Nat), S) := fun _ => rfl
  have h4 : dBin (pIn true) (dVar 6) (dVar 4) ρ (rSt sn lf) = some (.bl (!decide (h ∈ sn)), rSt sn lf) := in_sk (S := rSt sn lf) (n := 0) rfl h true
  have go : ∀ o, dIfS (dBin (pIn true) (dVar 6) (dVar 4)) (dSeq (dSub (dC (.bl true)) (dVar 4) (dVar 6))
      (dIfS (dOr (dBin (pEq true) (dBin pIx (dBin pIx (dVar 0) (dVar 6)) (dC (.int 0))) (dC (.str "store"))) (dBin (pEq true) (dBin pIx (dBin pIx (dVar 0) (dVar 6)) (dC (.int 1))) (dVar 3))) (dExpr (dMt pExtend (dVar 5) (aCons exC aNil))) dNext)) dNext ρ (rSt sn lf) = o → rcB (ER rows kp st nm x6 x7) (rSt sn (lf ++ [h])) = o := fun o e => by
    show dSeq _ _ _ _ = _
    rw [v_seq, s1]
    simp only
    exact e
  by_cases k1 : h ∈ sn
  · refine ⟨x7, go _ ?_⟩
    rw [if_pos k1, v_ifS, h4, decide_eq_true k1]
    simp only [Bool.not_true, v_next]
    rfl
  · rw [if_neg k1]
    have e1 : dSub (dC (.bl true)) (dVar 4) (dVar 6) ρ (rSt sn lf) = some (.nx ρ (rSt (sn ++ [h]) lf)) := by
      have st1 := set_sk (S := rSt sn lf) (n := 0) (sn := sn) (x := h) rfl k1 (by omega)
      exact sub_at rfl rfl rfl st1
    have hx : ∀ S : Sto, dBin pIx (dVar 0) (dVar 6) ρ S = some (r.d, S) := fun S => by
      have : pIx (.tup (rows.map PRow.d)) (.int h) S = some (r.d, S) := ix_tup (atD_nat (by rw [List.getElem?_map, hr] <;> rfl))
      exact this
    have ps := pass_ok (r := dVar 0) (nm := nm) (hx (rSt (sn ++ [h]) lf)) (v3 _)
    cases hs : stR nm r with
    | true =>
      refine ⟨x7, go _ ?_⟩
      rw [v_ifS, h4, decide_eq_false k1]
      simp only [Bool.not_false]
      rw [v_seq, e1]
      simp only
      rw [v_ifS, ps, hs]
      rfl
    | false =>
      refine ⟨x7, go _ ?_⟩
      rw [v_ifS, h4, decide_eq_false k1]
      simp only [Bool.not_false]
      rw [v_seq, e1]
      simp only
      rw [v_ifS, ps, hs]
      simp only [Bool.not_false]
      have hq : (rSt (sn ++ [h]) lf)[1]? = some (.lst (iN lf)) := rfl
      have hle : (freeL kp (r.led h)).length ≤ 2 := by
        have h1 : (r.led h).length ≤ 2 := by cases r <;> simp [PRow.led]
        have := List.length_filter_le (fun t => !decide (t ∈ kp)) (r.led h)
        unfold freeL
        omega
      have ex := ext_loc (k := .own) (by decide) hq (ys := iN (freeL kp (r.led h))) (by rw [iN_len, iN_len]; omega)
      rw [← iN_app] at ex
      have fc := free_comp (S := rSt (sn ++ [h]) lf) (kp := kp) (st := st) (nm := nm) hr (x7 := x7)
      have a0 : aCons exC aNil ρ (rSt (sn ++ [h]) lf) = some ([.lst .own (iN (freeL kp (r.led h)))], rSt (sn ++ [h]) lf) := by
        rw [v_cons, show exC ρ _ = _ from fc]
        rfl
      rw [v_expr, v_mt, v5]
      simp only [asL_loc hq, a0, ex]
      rfl
theorem rc_loop (hled : ∀ (a : Nat) (r : PRow), rows[a]? = some r → ∀ t ∈ r.led a, t < rows.length) (hn : rows.length ≤ 1000) {R : Nat → Prop}
    (hR : ∀ (x : Nat) (r : PRow), R x → rows[x]? = some r → stR nm r = false → ∀ t ∈ r.led x, t ∉ kp → R t) : ∀ (m : Nat) (sn lf : List Nat) (x6 x7 : Option DV), sn.Nodup → (∀ x ∈ sn, R x ∧ x < rows.length) → (∀ x ∈ lf, R x ∧ x < rows.length) →
    3 * rows.length + lf.length < m + 3 * sn.length → lf.length + 3 * rows.length < 4500 + 3 * sn.length →
    ∃ ρ' sn', whileL rcC rcB m (ER rows kp st nm x6 x7) (rSt sn lf) = some (.nx ρ' (rSt sn' [])) ∧ (∃ y z, ρ' = ER rows kp st nm y z) ∧ (∀ x ∈ sn', R x ∧ x < rows.length) ∧ sn'.length ≤ rows.length
  | 0, sn, lf, x6, x7, nd, h1, h2, hm, h4 => by
    have := nodup_len nd (m := List.range rows.length) fun x hx => List.mem_range.mpr (h1 x hx).2
    rw [List.length_range] at this
    omega
  | m + 1, sn, lf, x6, x7, nd, h1, h2, hm, h4 => by
    have hsl := nodup_len nd (m := List.range rows.length) fun x hx => List.mem_range.mpr (h1 x hx).2
    rw [List.length_range] at hsl
    have hc : rcC (ER rows kp st nm x6 x7) (rSt sn lf) = some (.bl (decide (0 < lf.length)), rSt sn lf) := by
      have hlen : pLen [.loc 1] (rSt sn lf) = some (.int lf.length, rSt sn lf) := by
        show some (DV.int ((iN lf).length : Nat), _) = _
        rw [iN_len]
      have v5 : dVar 5 (ER rows kp st nm x6 x7) (rSt sn lf) = some (.loc 1, rSt sn lf) := rfl
      simp only [v_bin, v_prim, v_cons, v_nil, v5, hlen, v_c, v_gt]
      have : decide ((0 : Int) < (lf.length : Int)) = decide (0 < lf.length) := by
        by_cases w : 0 < lf.length
        · rw [decide_eq_true w, decide_eq_true (by omega)]
        · rw [decide_eq_false w, decide_eq_false (by omega)]
      rw [this]
    by_cases q : lf = []
    · subst q
      refine ⟨_, sn, ?_, ⟨x6, x7, rfl⟩, h1, hsl⟩
      unfold whileL
      rw [hc]
      rfl
    · obtain ⟨lf', h, rfl⟩ : ∃ lf' h, lf = lf' ++ [h] := ⟨lf.dropLast, lf.getLast q, (List.dropLast_concat_getLast q).symm⟩
      obtain ⟨hR0, hlt⟩ := h2 h (List.mem_append_right _ List.mem_cons_self)
      have h2' : ∀ x ∈ lf', R x ∧ x < rows.length := fun x hx => h2 x (List.mem_append_left _ hx)
      have hr : rows[h]? = some (rows[h]'hlt) := List.getElem?_eq_getElem hlt
      generalize rows[h]'hlt = r at hr
      rw [List.length_append, List.length_singleton] at hm hc h4
      rw [decide_eq_true (by omega)] at hc
      obtain ⟨y, hb⟩ := rcB_ok (kp := kp) (st := st) (nm := nm) (sn := sn) (lf := lf') hr (by omega) (by omega) (x6 := x6) (x7 := x7)
      have hle : (freeL kp (r.led h)).length ≤ 2 := by
        have h1 : (r.led h).length ≤ 2 := by cases r <;> simp [PRow.led]
        have := List.length_filter_le (fun t => !decide (t ∈ kp)) (r.led h)
        unfold freeL
        omega
      have step : ∀ T, (if h ∈ sn then rSt sn lf' else if stR nm r = true then rSt (sn ++ [h]) lf' else rSt (sn ++ [h]) (lf' ++ freeL kp (r.led h))) = T → whileL rcC rcB (m + 1) (ER rows kp st nm x6 x7) (rSt sn (lf' ++ [h])) = whileL rcC rcB m (ER rows kp st nm (some (.int h)) y) T := fun T e => by
        conv => lhs; unfold whileL
        rw [hc]
        simp only
        rw [hb, e]
      by_cases k1 : h ∈ sn
      · rw [step (rSt sn lf') (by rw [if_pos k1])]
        exact rc_loop hled hn hR m sn lf' _ _ nd h1 h2' (by omega) (by omega)
      · have nd' : (sn ++ [h]).Nodup := List.nodup_append.mpr ⟨nd, List.pairwise_singleton _ _, fun a ha b hb e => k1 (by rw [List.mem_singleton.mp hb] at e; rw [← e]; exact ha)⟩
        have h1' : ∀ x ∈ sn ++ [h], R x ∧ x < rows.length := fun x hx => by
          rcases List.mem_append.mp hx with z | z
          · exact h1 x z
          · rw [List.mem_singleton.mp z]
            exact ⟨hR0, hlt⟩
        have hl' : (sn ++ [h]).length = sn.length + 1 := by simp
        cases hs : stR nm r with
        | true =>
          rw [step (rSt (sn ++ [h]) lf') (by rw [if_neg k1, if_pos hs])]
          exact rc_loop hled hn hR m (sn ++ [h]) lf' _ _ nd' h1' h2' (by omega) (by omega)
        | false =>
          rw [step (rSt (sn ++ [h]) (lf' ++ freeL kp (r.led h))) (by rw [if_neg k1, hs]; rfl)]
          refine rc_loop hled hn hR m (sn ++ [h]) (lf' ++ freeL kp (r.led h)) _ _ nd' h1' (fun x hx => ?_) (by rw [List.length_append]; omega) (by rw [List.length_append]; omega)
          rcases List.mem_append.mp hx with z | z
          · exact h2' x z
          · obtain ⟨z1, z2⟩ := List.mem_filter.mp z
            exact ⟨hR h r hR0 hr hs x z1 (by simpa using z2), hled h r hr x z1⟩
theorem reached_ok (hled : ∀ (a : Nat) (r : PRow), rows[a]? = some r → ∀ t ∈ r.led a, t < rows.length) (hn : rows.length ≤ 1000) {R : Nat → Prop}
    (hR : ∀ (x : Nat) (r : PRow), R x → rows[x]? = some r → stR nm r = false → ∀ t ∈ r.led x, t ∉ kp → R t) {k : LK} (hk : k ≠ .ext) (ss : List Nat) (h1 : ∀ x ∈ ss, R x ∧ x < rows.length) (hz : ss.length < 1000) :
    ∃ l, pureOf F_law_reached [.tup (rows.map PRow.d), .dik .bor (snK kp) (snV kp), .lst k (iN ss), .str nm] = some (.lst .own (iN l)) ∧ (∀ x ∈ l, R x ∧ x < rows.length) ∧ l.length ≤ rows.length := by
  let st : DV := .lst k (iN ss)
  obtain ⟨ρ', sn, el, ⟨y, z, rfl⟩, hsn, hsl⟩ := rc_loop (st := st) hled hn hR 100000 [] ss none none List.nodup_nil (fun x hx => nomatch hx) h1 (by simp; omega) (by simp; omega)
  refine ⟨sn, pureOf_of (S' := rSt sn []) ?_ (by rw [plain_own]; exact iN_plain _), hsn, hsl⟩
  have s1 : dSet 4 (fun _ S => some (.loc S.length, S ++ [.dik [] []])) [some (.tup (rows.map PRow.d)), some (.dik .bor (snK kp) (snV kp)), some st, some (.str nm), none, none, none, none] [] = some (.nx [some (.tup (rows.map PRow.d)), some (.dik .bor (snK kp) (snV kp)), some st, some (.str nm), some (.loc 0), none, none, none] [sk []]) := rfl
  have s2 : dSet 5 (dPrim pListM (aCons (dVar 2) aNil)) [some (.tup (rows.map PRow.d)), some (.dik .bor (snK kp) (snV kp)), some st, some (.str nm), some (.loc 0), none, none, none] [sk []] = some (.nx (ER rows kp st nm none none) (rSt [] ss)) := by
    have a0 : aCons (dVar 2) aNil [some (.tup (rows.map PRow.d)), some (.dik .bor (snK kp) (snV kp)), some st, some (.str nm), some (.loc 0), none, none, none] [sk []] = some ([.lst k (iN ss)], [sk []]) := rfl
    have p1 : pListM [.lst k (iN ss)] [sk []] = some (.loc 1, [sk [], .lst (iN ss)]) := by
      cases k with
      | ext => exact absurd rfl hk
      | own => rfl
      | bor => rfl
    rw [v_set, v_prim]
    simp only [a0, p1]
    rfl
  have s4 : dRet (dPrim pList (aCons (dVar 4) aNil)) (ER rows kp st nm y z) (rSt sn []) = some (.rt (.lst .own (iN sn)) (rSt sn [])) := by
    have a0 : aCons (dVar 4) aNil (ER rows kp st nm y z) (rSt sn []) = some ([.loc 0], rSt sn []) := rfl
    have p1 : pList [.loc 0] (rSt sn []) = some (.lst .own (iN sn), rSt sn []) := by
      have e1 : itemsD (rSt sn []) (.loc 0) = none := rfl
      have e2 : asK0 (rSt sn []) (.loc 0) = some (snK sn, snV sn) := rfl
      unfold pList
      simp only [e1, e2]
      have : (snK sn).map kdv = iN sn := by
        unfold iN
        rw [List.map_map]
        rfl
      rw [this]
    rw [v_ret, v_prim]
    simp only [a0, p1]
  unfold F_law_reached b_law_reached runF
  show (match (dSeq _ _ [some (.tup (rows.map PRow.d)), some (.dik .bor (snK kp) (snV kp)), some st, some (.str nm), none, none, none, none] [] : Option Out) with | some (.rt d S') => some (d, S') | some (.nx _ S') => some (.non, S') | _ => none) = _
  rw [v_seq, s1]
  simp only
  rw [v_seq, s2]
  simp only
  rw [v_seq, show whileL rcC rcB 100000 _ _ = _ from el]
  simp only
  rw [s4]
end
end Lk34

namespace Lk34
open PySem PySem.Spec PyProof.Rows L2 Dn
theorem cpL_cons {b : Bool} {S : Sto} {d e : DV} {ds es : List DV} (h : cpD b S d = some e) (hs : cpL b S ds = some es) : cpL b S (d :: ds) = some (e :: es) := by
  have h1 : mapD b (cpN b (S.length + 1) S) d = some e := h
  have h2 : mapDL b (cpN b (S.length + 1) S) ds = some es := hs
  show mapDL b _ (d :: ds) = _
  unfold mapDL
  simp only [h1, h2]
theorem cpL_nil {b : Bool} {S : Sto} : cpL b S [] = some [] := rfl
theorem snV_plain {kp : List Nat} : plainL (snV kp) = true := plainL_iff.mpr fun d hd => by
  obtain ⟨_, _, rfl⟩ := List.mem_map.mp hd
  rfl
theorem cpD_dkb {S : Sto} {kp : List Nat} : cpD true S (.dik .bor (snK kp) (snV kp)) = some (.dik .bor (snK kp) (snV kp)) := by
  show mapD true _ (.dik .bor (snK kp) (snV kp)) = _
  unfold mapD
  rw [if_neg (by simp), mapDL_plain snV_plain]
theorem cpD_sk {S : Sto} {n : Nat} {kp : List Nat} (h : S[n]? = some (sk kp)) : cpD true S (.loc n) = some (.dik .bor (snK kp) (snV kp)) := by
  show cpN true (S.length + 1) S n = _
  unfold cpN
  simp only [h, sk, mapDL_plain snV_plain]
  rfl
abbrev EM (rows : List PRow) (kp : List Nat) (nm : Str) (x4 x5 : Option DV) : List (Option DV) := [some (.tup (rows.map PRow.d)), some (.dik .bor (snK kp) (snV kp)), some (.str nm), some (.loc 0), x4, x5]
abbrev rowM : DE := dBin pIx (dVar 0) (dVar 4)
abbrev exM : DE := dLc (iSeq (dPrim (cP (pureOf F_law_exits) []) (aCons (dVar 0) (aCons (dVar 4) aNil)))) (gSet 5) (dBin (pIn true) (dVar 5) (dVar 1)) (dVar 5) [5]
abbrev m1B : DS := dIfS (tkC rowM (dVar 2)) (dExpr (dMt pExtend (dVar 3) (aCons exM aNil))) dNext
abbrev m2B : DS := dIfS (ptC rowM (dVar 2)) (dRet (dC (.bl true))) dNext
section
variable {rows : List PRow} {kp : List Nat} {nm : Str}
theorem rowM_ok {S : Sto} {x : Nat} {r : PRow} {x5 : Option DV} (hr : rows[x]? = some r) : rowM (EM rows kp nm (some (.int x)) x5) S = some (r.d, S) := by
  have : pIx (.tup (rows.map PRow.d)) (.int x) S = some (r.d, S) := ix_tup (atD_nat (by rw [List.getElem?_map, hr] <;> rfl))
  exact this
theorem m1B_ok {x : Nat} {r : PRow} {x5 : Option DV} {sts : List Nat} (hr : rows[x]? = some r) (hz : sts.length < 100000) :
    ∃ y, m1B (EM rows kp nm (some (.int x)) x5) [.lst (iN sts)] = some (.nx (EM rows kp nm (some (.int x)) y) [.lst (iN (if tkR nm r = true then sts ++ freeL kp (r.led x) else sts))]) := by
  have c := tkC_ok (nm := nm) (n := dVar 2) (rowM_ok (kp := kp) (nm := nm) (S := [.lst (iN sts)]) (x5 := x5) hr) rfl
  refine ⟨x5, ?_⟩
  show dIfS _ _ _ _ _ = _
  rw [v_ifS, show tkC rowM (dVar 2) _ _ = _ from c]
  cases hs : tkR nm r with
  | false => rfl
  | true =>
    simp only
    have i1 : iSeq (dPrim (cP (pureOf F_law_exits) []) (aCons (dVar 0) (aCons (dVar 4) aNil))) (EM rows kp nm (some (.int (x : Nat))) x5) [.lst (iN sts)] = some (iN (r.led x), [.lst (iN sts)]) := by
      have a0 : aCons (dVar 0) (aCons (dVar 4) aNil) (EM rows kp nm (some (.int (x : Nat))) x5) [.lst (iN sts)] = some ([.tup (rows.map PRow.d), .int x], [.lst (iN sts)]) := rfl
      have e : dPrim (cP (pureOf F_law_exits) []) (aCons (dVar 0) (aCons (dVar 4) aNil)) (EM rows kp nm (some (.int (x : Nat))) x5) [.lst (iN sts)] = some (.lst .own (iN (r.led x)), [.lst (iN sts)]) := by
        rw [v_prim]
        simp only [a0, exits_c hr]
      rw [iSeq_eq, e]
    have hle : (r.led x).length ≤ 2 := by cases r <;> simp [PRow.led]
    have hle2 : (freeL kp (r.led x)).length ≤ 2 := by
      have := List.length_filter_le (fun t => !decide (t ∈ kp)) (r.led x)
      unfold freeL
      omega
    have ec : exM (EM rows kp nm (some (.int (x : Nat))) x5) [.lst (iN sts)] = some (.lst .own (iN (freeL kp (r.led x))), [.lst (iN sts)]) := by
      refine dLc_of i1 ?_ (size_ok (by rw [iN_len]; omega))
      rw [show dwipe (EM rows kp nm (some (.int (x : Nat))) x5) [5] = EM rows kp nm (some (.int (x : Nat))) none from rfl]
      exact lcL_filter (D := fun (n : Nat) => DV.int n) fun t ht => ⟨EM rows kp nm (some (.int x)) (some (.int t)), rfl, in_dkb (neg := true), rfl⟩
    have hq : ([.lst (iN sts)] : Sto)[0]? = some (.lst (iN sts)) := rfl
    have ex := ext_loc (k := .own) (by decide) hq (ys := iN (freeL kp (r.led x))) (by rw [iN_len, iN_len]; omega)
    rw [← iN_app] at ex
    have v3 : dVar 3 (EM rows kp nm (some (.int (x : Nat))) x5) [.lst (iN sts)] = some (.loc 0, [.lst (iN sts)]) := rfl
    have a0 : aCons exM aNil (EM rows kp nm (some (.int (x : Nat))) x5) [.lst (iN sts)] = some ([.lst .own (iN (freeL kp (r.led x)))], [.lst (iN sts)]) := by
      rw [v_cons, show exM _ _ = _ from ec]
      rfl
    rw [v_expr, v_mt, v3]
    simp only [asL_loc hq, a0, ex, if_true]
    rfl
theorem m1_loop {R1 R2 : Nat → Prop} (h12 : ∀ (x : Nat) (r : PRow), R1 x → rows[x]? = some r → tkR nm r = true → ∀ t ∈ r.led x, t ∉ kp → R2 t) (hled : ∀ (a : Nat) (r : PRow), rows[a]? = some r → ∀ t ∈ r.led a, t < rows.length) :
    ∀ (xs sts : List Nat) (x4 x5 : Option DV), (∀ x ∈ xs, R1 x ∧ x < rows.length) → (∀ x ∈ sts, R2 x ∧ x < rows.length) → sts.length + 2 * xs.length < 50000 →
    ∃ y z sts', forL (gSet 4) m1B (iN xs) (EM rows kp nm x4 x5) [.lst (iN sts)] = some (.nx (EM rows kp nm y z) [.lst (iN sts')]) ∧ (∀ x ∈ sts', R2 x ∧ x < rows.length) ∧ sts'.length ≤ sts.length + 2 * xs.length
  | [], sts, x4, x5, _, h2, _ => ⟨x4, x5, sts, rfl, h2, by simp⟩
  | x :: xs, sts, x4, x5, h1, h2, hz => by
    rw [List.length_cons] at hz
    obtain ⟨hx1, hx2⟩ := h1 x List.mem_cons_self
    have hr : rows[x]? = some (rows[x]'hx2) := List.getElem?_eq_getElem hx2
    generalize rows[x]'hx2 = r at hr
    obtain ⟨y, hb⟩ := m1B_ok (kp := kp) (nm := nm) (x5 := x5) (sts := sts) hr (by omega)
    have hle : (freeL kp (r.led x)).length ≤ 2 := by
      have h1 : (r.led x).length ≤ 2 := by cases r <;> simp [PRow.led]
      have := List.length_filter_le (fun t => !decide (t ∈ kp)) (r.led x)
      unfold freeL
      omega
    have hn : ∀ t ∈ (if tkR nm r = true then sts ++ freeL kp (r.led x) else sts), R2 t ∧ t < rows.length := fun t ht => by
      split at ht
      · rename_i q
        rcases List.mem_append.mp ht with z | z
        · exact h2 t z
        · obtain ⟨z1, z2⟩ := List.mem_filter.mp z
          exact ⟨h12 x r hx1 hr q t z1 (by simpa using z2), hled x r hr t z1⟩
      · exact h2 t ht
    have hl : (if tkR nm r = true then sts ++ freeL kp (r.led x) else sts).length ≤ sts.length + 2 := by
      split
      · rw [List.length_append]; omega
      · omega
    generalize (if tkR nm r = true then sts ++ freeL kp (r.led x) else sts) = sts1 at hb hn hl
    obtain ⟨y', z', sts', el, e1, e2⟩ := m1_loop h12 hled xs sts1 (some (.int x)) y (fun t ht => h1 t (List.mem_cons_of_mem _ ht)) hn (by omega)
    refine ⟨y', z', sts', ?_, e1, by rw [List.length_cons]; omega⟩
    show forL (gSet 4) m1B (.int (x : Nat) :: iN xs) _ _ = _
    unfold forL
    simp only [v_gset, EM, List.set_cons_succ, List.set_cons_zero]
    simp only [EM] at hb el
    rw [hb]
    exact el
theorem m2_loop {S : Sto} : ∀ (xs : List Nat) (x4 x5 : Option DV), (∀ x ∈ xs, ∃ r, rows[x]? = some r ∧ ptR nm r = false) → ∃ y z, forL (gSet 4) m2B (iN xs) (EM rows kp nm x4 x5) S = some (.nx (EM rows kp nm y z) S)
  | [], x4, x5, _ => ⟨x4, x5, rfl⟩
  | x :: xs, x4, x5, h => by
    obtain ⟨r, hr, hp⟩ := h x List.mem_cons_self
    have c := ptC_ok (nm := nm) (n := dVar 2) (rowM_ok (kp := kp) (nm := nm) (S := S) (x5 := x5) hr) rfl
    have hb : m2B (EM rows kp nm (some (.int x)) x5) S = some (.nx (EM rows kp nm (some (.int x)) x5) S) := by
      show dIfS _ _ _ _ _ = _
      rw [v_ifS, show ptC rowM (dVar 2) _ _ = _ from c, hp]
      rfl
    obtain ⟨y, z, ih⟩ := m2_loop xs (some (.int x)) x5 fun t ht => h t (List.mem_cons_of_mem _ ht)
    refine ⟨y, z, ?_⟩
    show forL (gSet 4) m2B (.int (x : Nat) :: iN xs) _ _ = _
    unfold forL
    simp only [v_gset, EM, List.set_cons_succ, List.set_cons_zero]
    simp only [EM] at hb ih
    rw [hb]
    exact ih
theorem may_false (hled : ∀ (a : Nat) (r : PRow), rows[a]? = some r → ∀ t ∈ r.led a, t < rows.length) (hn : rows.length ≤ 400) (h0 : 0 < rows.length) (hkp : ∀ k ∈ kp, k < rows.length) (hkz : kp.length < 900) {R1 R2 : Nat → Prop}
    (i1 : R1 0) (i2 : ∀ k ∈ kp, R1 k) (hR1 : ∀ (x : Nat) (r : PRow), R1 x → rows[x]? = some r → stR nm r = false → ∀ t ∈ r.led x, t ∉ kp → R1 t)
    (h12 : ∀ (x : Nat) (r : PRow), R1 x → rows[x]? = some r → tkR nm r = true → ∀ t ∈ r.led x, t ∉ kp → R2 t)
    (hR2 : ∀ (x : Nat) (r : PRow), R2 x → rows[x]? = some r → ∀ t ∈ r.led x, t ∉ kp → R2 t) (hno : ∀ (x : Nat) (r : PRow), R2 x → rows[x]? = some r → ptR nm r = false) :
    pureOf F_law_may [.tup (rows.map PRow.d), .dik .bor (snK kp) (snV kp), .str nm] = some (.bl false) := by
  obtain ⟨l1, e1, hl1, z1⟩ := reached_ok (kp := kp) (nm := nm) hled (by omega) hR1 (k := .own) (by decide) (0 :: kp) (fun x hx => by
    rcases List.mem_cons.mp hx with e | e
    · rw [e]; exact ⟨i1, h0⟩
    · exact ⟨i2 x e, hkp x e⟩) (by rw [List.length_cons]; omega)
  obtain ⟨y, z, sts, el1, hs1, hs2⟩ := m1_loop (kp := kp) (nm := nm) h12 hled l1 [] none none hl1 (fun x hx => nomatch hx) (by simp; omega)
  have hs2 : sts.length ≤ 2 * l1.length := by simpa using hs2
  obtain ⟨l2, e2, hl2, z2⟩ := reached_ok (kp := kp) (nm := "") hled (by omega) (fun x r h1 h2 _ t h3 h4 => hR2 x r h1 h2 t h3 h4) (k := .bor) (by decide) sts hs1 (by omega)
  obtain ⟨y2, x2, el2⟩ := m2_loop (rows := rows) (kp := kp) (nm := nm) (S := [.lst (iN sts)]) l2 y z (fun x hx => by
    obtain ⟨h1, h2⟩ := hl2 x hx
    exact ⟨rows[x]'h2, List.getElem?_eq_getElem h2, hno x _ h1 (List.getElem?_eq_getElem h2)⟩)
  refine pureOf_of (S' := [.lst (iN sts)]) ?_ rfl
  let ρ0 : List (Option DV) := [some (.tup (rows.map PRow.d)), some (.dik .bor (snK kp) (snV kp)), some (.str nm), none, none, none]
  have s1 : dSet 3 (dPrim pLstM aNil) ρ0 [] = some (.nx (EM rows kp nm none none) [.lst (iN [])]) := rfl
  have cR : cpD true ([.lst (iN [])] : Sto) (.tup (rows.map PRow.d)) = some (.tup (rows.map PRow.d)) := cpD_plain rows_plain1
  have cR2 : cpD true ([.lst (iN sts)] : Sto) (.tup (rows.map PRow.d)) = some (.tup (rows.map PRow.d)) := cpD_plain rows_plain1
  have g1 : iSeq (dPrim (cP (pureOf F_law_reached) []) (aCons (dVar 0) (aCons (dVar 1) (aCons (dBin pAdd (dPrim pLst (aCons (dC (.int 0)) aNil)) (dPrim pList (aCons (dVar 1) aNil))) (aCons (dVar 2) aNil))))) (EM rows kp nm none none) [.lst (iN [])] = some (iN l1, [.lst (iN [])]) := by
    have v0 : dVar 0 (EM rows kp nm none none) [.lst (iN [])] = some (.tup (rows.map PRow.d), [.lst (iN [])]) := rfl
    have v1 : dVar 1 (EM rows kp nm none none) [.lst (iN [])] = some (.dik .bor (snK kp) (snV kp), [.lst (iN [])]) := rfl
    have v2 : dVar 2 (EM rows kp nm none none) [.lst (iN [])] = some (.str nm, [.lst (iN [])]) := rfl
    have p0 : dPrim pLst (aCons (dC (.int 0)) aNil) (EM rows kp nm none none) [.lst (iN [])] = some (.lst .own [.int 0], [.lst (iN [])]) := rfl
    have p1 : dPrim pList (aCons (dVar 1) aNil) (EM rows kp nm none none) [.lst (iN [])] = some (.lst .own (iN kp), [.lst (iN [])]) := by
      have : pList [.dik .bor (snK kp) (snV kp)] ([.lst (iN [])] : Sto) = some (.lst .own (iN kp), [.lst (iN [])]) := by
        have e1 : itemsD ([.lst (iN [])] : Sto) (.dik .bor (snK kp) (snV kp)) = none := rfl
        have e2 : asK0 ([.lst (iN [])] : Sto) (.dik .bor (snK kp) (snV kp)) = some (snK kp, snV kp) := rfl
        unfold pList
        simp only [e1, e2]
        have : (snK kp).map kdv = iN kp := by
          unfold iN
          rw [List.map_map]
          rfl
        rw [this]
      rw [v_prim, v_cons, v1]
      simp only [v_nil, this]
    have pa : dBin pAdd (dPrim pLst (aCons (dC (.int 0)) aNil)) (dPrim pList (aCons (dVar 1) aNil)) (EM rows kp nm none none) [.lst (iN [])] = some (.lst .own (iN (0 :: kp)), [.lst (iN [])]) := by
      rw [v_bin, p0]
      simp only [p1]
      rw [v_addL (by decide) (by decide), if_pos (by rw [iN_len, size_eq]; simp; omega)]
      rfl
    have cc : cP (pureOf F_law_reached) [] [.tup (rows.map PRow.d), .dik .bor (snK kp) (snV kp), .lst .own (iN (0 :: kp)), .str nm] [.lst (iN [])] = some (.lst .own (iN l1), [.lst (iN [])]) := by
      have cl : cpL true ([.lst (iN [])] : Sto) [.tup (rows.map PRow.d), .dik .bor (snK kp) (snV kp), .lst .own (iN (0 :: kp)), .str nm] = some [.tup (rows.map PRow.d), .dik .bor (snK kp) (snV kp), .lst .own (iN (0 :: kp)), .str nm] := cpL_cons cR (cpL_cons cpD_dkb (cpL_cons (cpD_bor (iN_plain _)) (cpL_cons rfl cpL_nil)))
      simp only [cP_eq, cl, e1]
    have e : dPrim (cP (pureOf F_law_reached) []) (aCons (dVar 0) (aCons (dVar 1) (aCons (dBin pAdd (dPrim pLst (aCons (dC (.int 0)) aNil)) (dPrim pList (aCons (dVar 1) aNil))) (aCons (dVar 2) aNil)))) (EM rows kp nm none none) [.lst (iN [])] = some (.lst .own (iN l1), [.lst (iN [])]) := by
      rw [v_prim]
      simp only [v_cons, v_nil, v0, v1, v2, pa, cc]
    rw [iSeq_eq, e]
  have g2 : iSeq (dPrim (cP (pureOf F_law_reached) []) (aCons (dVar 0) (aCons (dVar 1) (aCons (dVar 3) (aCons (dC (.str "")) aNil))))) (EM rows kp nm y z) [.lst (iN sts)] = some (iN l2, [.lst (iN sts)]) := by
    have a0 : aCons (dVar 0) (aCons (dVar 1) (aCons (dVar 3) (aCons (dC (.str "")) aNil))) (EM rows kp nm y z) [.lst (iN sts)] = some ([.tup (rows.map PRow.d), .dik .bor (snK kp) (snV kp), .loc 0, .str ""], [.lst (iN sts)]) := rfl
    have cc : cP (pureOf F_law_reached) [] [.tup (rows.map PRow.d), .dik .bor (snK kp) (snV kp), .loc 0, .str ""] [.lst (iN sts)] = some (.lst .own (iN l2), [.lst (iN sts)]) := by
      have cl : cpL true ([.lst (iN sts)] : Sto) [.tup (rows.map PRow.d), .dik .bor (snK kp) (snV kp), .loc 0, .str ""] = some [.tup (rows.map PRow.d), .dik .bor (snK kp) (snV kp), .lst .bor (iN sts), .str ""] := cpL_cons cR2 (cpL_cons cpD_dkb (cpL_cons (cpD_loc rfl (iN_plain _)) (cpL_cons rfl cpL_nil)))
      simp only [cP_eq, cl, e2]
    have e : dPrim (cP (pureOf F_law_reached) []) (aCons (dVar 0) (aCons (dVar 1) (aCons (dVar 3) (aCons (dC (.str "")) aNil)))) (EM rows kp nm y z) [.lst (iN sts)] = some (.lst .own (iN l2), [.lst (iN sts)]) := by
      rw [v_prim]
      simp only [a0, cc]
    rw [iSeq_eq, e]
  unfold F_law_may b_law_may runF
  show (match (dSeq _ _ ρ0 [] : Option Out) with | some (.rt d S') => some (d, S') | some (.nx _ S') => some (.non, S') | _ => none) = _
  rw [v_seq, s1]
  simp only
  rw [v_seq, v_for, g1]
  simp only
  rw [show forL (gSet 4) m1B (iN l1) _ _ = _ from el1]
  simp only
  rw [v_seq, v_for, g2]
  simp only
  rw [show forL (gSet 4) m2B (iN l2) _ _ = _ from el2]
  rfl
end
/-! ### nothing told, nothing there -/
theorem none_may {cells shelves : List (Str × Int × Bool)} {rows : List PRow} {kp : List Nat} {nm : Str} (hled : ∀ (a : Nat) (r : PRow), rows[a]? = some r → ∀ t ∈ r.led a, t < rows.length) (hn : rows.length ≤ 400) (h0 : 0 < rows.length) (hkp : ∀ k ∈ kp, k < rows.length) (hkz : kp.length < 900)
    (hno : ∀ k, Rch (srcP (0 :: kp)) (sucS rows kp nm) k → tstS rows nm k = false) : pureOf F_law_may [.tup (rows.map PRow.d), .dik .bor (snK kp) (snV kp), .str nm] = some (.bl false) := by
  have suc : ∀ {x : Nat} {r : PRow} {s s' : Bool}, rows[x]? = some r → beh (tch nm r) s = some s' → ∀ t ∈ r.led x, t ∉ kp → (t, s') ∈ sucS rows kp nm (x, s) := fun {x r s s'} hr hb t ht hk => by
    unfold sucS
    simp only [hr, hb]
    exact List.mem_map.mpr ⟨t, List.mem_filter.mpr ⟨ht, by simp [hk]⟩, rfl⟩
  refine may_false hled hn h0 hkp hkz (R1 := fun x => ∃ s, Rch (srcP (0 :: kp)) (sucS rows kp nm) (x, s)) (R2 := fun x => Rch (srcP (0 :: kp)) (sucS rows kp nm) (x, true))
    ⟨false, .here (List.mem_map.mpr ⟨0, List.mem_cons_self, rfl⟩)⟩ (fun k hk => ⟨false, .here (List.mem_map.mpr ⟨k, List.mem_cons_of_mem _ hk, rfl⟩)⟩) (fun x r ⟨s, hs⟩ hr hst t ht hk => ?_) (fun x r ⟨s, hs⟩ hr htk t ht hk => ?_) (fun x r hs hr t ht hk => ?_) fun x r hs hr => ?_
  · have hb : beh (tch nm r) s = some (s || (decide (tch nm r = "load") || decide (tch nm r = "take"))) := by
      unfold beh
      rw [if_neg fun z => by unfold stR at hst; rw [decide_eq_true z.1] at hst; cases hst]
    exact ⟨_, .on hs (suc hr hb t ht hk)⟩
  · have hb : beh (tch nm r) s = some true := by
      unfold beh
      have h1 : (decide (tch nm r = "load") || decide (tch nm r = "take")) = true := htk
      rw [if_neg fun z => by rw [z.1] at h1; revert h1; decide +kernel, h1, Bool.or_true]
    exact .on hs (suc hr hb t ht hk)
  · have hb : beh (tch nm r) true = some true := by
      unfold beh
      rw [if_neg fun z => by cases z.2]
      rfl
    exact .on hs (suc hr hb t ht hk)
  · have := hno _ hs
    unfold tstS at this
    simp only [hr, Bool.true_and] at this
    exact this
end Lk34

namespace Lk34
open PySem PySem.Spec PyProof.Rows L2 Dn
/-! ### the cutting -/
theorem lcL_fm {α : Type} {D E : α → DV} {p : α → Bool} {g : DG} {c fe : DE} {ρ : List (Option DV)} {S : Sto} : ∀ {K : List α}, (∀ b ∈ K, ∃ ρ1, g (D b) ρ S = some (ρ1, S) ∧ c ρ1 S = some (.bl (p b), S) ∧ fe ρ1 S = some (E b, S)) → lcL g c fe ρ (K.map D) S = some ((K.filter p).map E, S)
  | [], _ => rfl
  | b :: K, h => by
    obtain ⟨ρ1, h1, h2, h3⟩ := h b List.mem_cons_self
    have ih := lcL_fm (K := K) (p := p) (D := D) (E := E) (g := g) (c := c) (fe := fe) (ρ := ρ) (S := S) fun b hb => h b (List.mem_cons_of_mem _ hb)
    rw [List.map_cons, List.filter_cons]
    unfold lcL
    cases q : p b with
    | true =>
      rw [q] at h2
      simp only [h1, h2, h3, ih, if_true, List.map_cons]
    | false =>
      rw [q] at h2
      simp only [h1, h2, ih]
      rfl
theorem shl1 {j : Nat} (h : j < 60) {S : Sto} : pShl (.int 1) (.int j) S = some (.int (2 ^ j), S) := by
  show (match gShl 1 j with | some k => some (DV.int k, S) | none => none) = _
  unfold gShl
  rw [if_pos ⟨by omega, by omega, by decide⟩, Int.toNat_natCast, Int.one_mul]
theorem pow60 {j : Nat} (h : j < 60) : (0 : Int) < 2 ^ j ∧ (2 : Int) ^ j < 18446744073709551616 := by
  have h1 : (2 : Nat) ^ j < 2 ^ 60 := Nat.pow_lt_pow_right (by decide) h
  have h2 : 0 < (2 : Nat) ^ j := Nat.pos_of_ne_zero (by simp)
  have e : ((2 : Int) ^ j) = ((2 ^ j : Nat) : Int) := by simp
  have h3 : (2 : Nat) ^ 60 = 1152921504606846976 := by decide
  rw [e]
  omega
abbrev someL (ps : List Str) (n : Int) : List Str := ((List.range ps.length).filter fun j => decide (n / 2 ^ j % 2 = 1)).map fun j => ps.getD j Str.empty
theorem some_eq (ps : List Str) (hz : ps.length < 60) (n : Int) : pureOf F_law_some [.lst .own (ps.map .str), .int n] = some (.tup ((someL ps n).map .str)) := by
  refine pureOf_of (S' := []) ?_ (by rw [plain_tup]; exact plainL_strs)
  let ρ : List (Option DV) := [some (.lst .own (ps.map .str)), some (.int n), none]
  have ir : iRange1 (aCons (dPrim pLen (aCons (dVar 0) aNil)) aNil) ρ [] = some (rgD 0 ps.length, []) := by
    have l2 : dPrim pLen (aCons (dVar 0) aNil) ρ ([] : Sto) = some (.int ps.length, []) := by
      show some (DV.int ((ps.map DV.str).length : Nat), ([] : Sto)) = _
      rw [List.length_map]
    unfold iRange1
    simp only [v_cons, v_nil, l2]
    rw [if_pos (by omega), Int.toNat_natCast]
  have hl : lcL (gSet 2) (dBin (pEq false) (dBin pMod (dBin pDiv (dVar 1) (dBin pShl (dC (.int 1)) (dVar 2))) (dC (.int 2))) (dC (.int 1))) (dBin pIx (dVar 0) (dVar 2)) ρ (rgD 0 ps.length) [] = some ((someL ps n).map .str, []) := by
    rw [rg_iN, List.map_map]
    refine lcL_fm (D := fun (n : Nat) => DV.int n) (E := fun j => DV.str (ps.getD j Str.empty)) fun j hj => ?_
    have hj := List.mem_range.mp hj
    let ρ1 : List (Option DV) := [some (.lst .own (ps.map .str)), some (.int n), some (.int j)]
    refine ⟨ρ1, rfl, ?_, ?_⟩
    · have p := pow60 (j := j) (by omega)
      have v1 : dVar 1 ρ1 ([] : Sto) = some (.int n, []) := rfl
      have v2 : dVar 2 ρ1 ([] : Sto) = some (.int (j : Nat), []) := rfl
      simp only [v_bin, v1, v2, v_c, shl1 (show j < 60 by omega), v_divI p.1 p.2, v_modI (show (0 : Int) < 2 by decide), v_eqI]
    · have hx : ps[j]? = some (ps.getD j Str.empty) := by
        rw [List.getD_eq_getElem?_getD, List.getElem?_eq_getElem hj] <;> rfl
      have : pIx (.lst .own (ps.map .str)) (.int (j : Nat)) [] = some (.str (ps.getD j Str.empty), []) := ix_own (atD_nat (by rw [List.getElem?_map, hx] <;> rfl))
      exact this
  have e := dLc_of ir (by rw [show dwipe ρ [2] = ρ from rfl]; exact hl) (size_ok (by
    rw [List.length_map, List.length_map]
    have := List.length_filter_le (fun j : Nat => decide (n / 2 ^ j % 2 = 1)) (List.range ps.length)
    rw [List.length_range] at this
    omega))
  unfold F_law_some b_law_some runF
  show (match (dRet _ ρ [] : Option Out) with | some (.rt d S') => some (d, S') | some (.nx _ S') => some (.non, S') | _ => none) = _
  rw [v_ret, v_prim, v_cons, e]
  rfl
theorem someL_mem {ps : List Str} {n : Int} {s : Str} (h : s ∈ someL ps n) : s ∈ ps := by
  obtain ⟨j, hj, rfl⟩ := List.mem_map.mp h
  have hj := List.mem_range.mp (List.mem_filter.mp hj).1
  rw [List.getD_eq_getElem?_getD, List.getElem?_eq_getElem hj]
  exact List.getElem_mem hj
abbrev ksD (ks : List (Nat × List Str)) : List (Nat × DV) := ks.map fun k => (k.1, DV.tup (k.2.map .str))
structure Cut (n : Nat) (ps : List Str) (bg : List Str) (ks : List (Nat × List Str)) : Prop where
  b : ∀ s ∈ bg, s ∈ ps
  up : (ks.map (·.1)).Pairwise (· < ·)
  lt : ∀ k ∈ ks, k.1 < n
  k : ∀ k ∈ ks, ∀ s ∈ k.2, s ∈ ps
abbrev EC (Sc P : DV) (ps : List Str) (z : Int) (bg : List Str) (sh : Int) (x7 : Option DV) : List (Option DV) := [some Sc, some P, some (.lst .own (ps.map .str)), some (.int z), some (.tup (bg.map .str)), some (.int sh), some (.loc 0), x7]
abbrev ct1 : DS := dIfS (dBin (pEq false) (dBin pMod (dPrim (cP (pureOf F_law_cell_at) []) (aCons (dVar 0) (aCons (dC (.int 0)) aNil))) (dC (.int 2))) (dC (.int 1))) (dSeq (dSet 3 (dPrim (cP (pureOf F_law_rich) []) (aCons (dVar 3) (aCons (dVar 7) aNil))))
  (dSet 5 (dBin pIx (dPrim pLst (aCons (dC (.int 2)) (aCons (dC (.int 4)) (aCons (dC (.int 8)) aNil)))) (dBin pMod (dBin pDiv (dPrim (cP (pureOf F_law_cell_at) []) (aCons (dVar 0) (aCons (dC (.int 0)) aNil))) (dC (.int 6))) (dC (.int 3)))))) dNext
abbrev ct2 : DS := dIfS (dBin (pEq false) (dBin pMod (dVar 3) (dVar 5)) (dC (.int 1))) (dExpr (dMt pAppend (dVar 6) (aCons (dPrim pTup (aCons (dVar 7) (aCons (dPrim (cP (pureOf F_law_some) []) (aCons (dVar 2) (aCons (dBin pDiv (dVar 3) (dVar 5)) aNil))) aNil))) aNil))) dNext
abbrev ct3 : DS := dSet 3 (dBin pDiv (dBin pDiv (dVar 3) (dVar 5)) (dBin pShl (dC (.int 1)) (dPrim pLen (aCons (dVar 2) aNil))))
abbrev ctB : DS := dSeq ct1 (dSeq ct2 ct3)
section
variable {ns : List Int} {P : DV} {ps bg : List Str}
theorem cell0 {S : Sto} : cP (pureOf F_law_cell_at) [] [.lst .ext (ns.map DV.int), .int 0] S = some (.int (ns.getD 0 0), S) := by
  have p : plainL [DV.lst .ext (ns.map DV.int), .int 0] = true := by simp
  have e : pureOf F_law_cell_at [.lst .ext (ns.map DV.int), .int 0] = some (.int (ns.getD 0 0)) := at_cell (k := 0)
  simp only [cP_eq, cpL_plain p, e]
theorem ct1_ok {z sh : Int} (hs : sh = 2 ∨ sh = 4 ∨ sh = 8) {i : Nat} (hi : i < 1000) {S : Sto} : ∃ z' sh' : Int, (sh' = 2 ∨ sh' = 4 ∨ sh' = 8) ∧ ct1 (EC (.lst .ext (ns.map DV.int)) P ps z bg sh (some (.int i))) S = some (.nx (EC (.lst .ext (ns.map DV.int)) P ps z' bg sh' (some (.int i))) S) := by
  let c := ns.getD 0 0
  have a0 : ∀ ρ, dVar 0 ρ S = some (DV.lst .ext (ns.map DV.int), S) → dPrim (cP (pureOf F_law_cell_at) []) (aCons (dVar 0) (aCons (dC (.int 0)) aNil)) ρ S = some (.int c, S) := fun ρ h => by
    rw [v_prim]
    simp only [v_cons, v_nil, h, v_c, cell0]
    rfl
  have h1 : dBin (pEq false) (dBin pMod (dPrim (cP (pureOf F_law_cell_at) []) (aCons (dVar 0) (aCons (dC (.int 0)) aNil))) (dC (.int 2))) (dC (.int 1)) (EC (.lst .ext (ns.map DV.int)) P ps z bg sh (some (.int i))) S = some (.bl (decide (c % 2 = 1)), S) := by
    rw [v_bin, v_bin, a0 _ rfl]
    simp only [v_c, v_modI (show (0 : Int) < 2 by decide), v_eqI]
  show ∃ z' sh', _ ∧ dIfS _ _ _ _ _ = _
  rw [v_ifS, h1]
  by_cases q : c % 2 = 1
  · obtain ⟨v, hv⟩ := rich_eq z i (by omega)
    have hr : cP (pureOf F_law_rich) [] [.int z, .int i] S = some (.int v, S) := by
      simp only [cP_eq, cpL_plain (show plainL [DV.int z, .int (i : Nat)] = true from rfl), hv]
    have s1 : dSet 3 (dPrim (cP (pureOf F_law_rich) []) (aCons (dVar 3) (aCons (dVar 7) aNil))) (EC (.lst .ext (ns.map DV.int)) P ps z bg sh (some (.int i))) S = some (.nx (EC (.lst .ext (ns.map DV.int)) P ps v bg sh (some (.int i))) S) := by
      have a1 : aCons (dVar 3) (aCons (dVar 7) aNil) (EC (.lst .ext (ns.map DV.int)) P ps z bg sh (some (.int i))) S = some ([.int z, .int i], S) := rfl
      rw [v_set, v_prim]
      simp only [a1, hr]
      rfl
    obtain ⟨w, hw, e⟩ : ∃ w : Int, (w = 2 ∨ w = 4 ∨ w = 8) ∧ pIx (.lst .own [.int 2, .int 4, .int 8]) (.int (c / 6 % 3)) S = some (.int w, S) := by
      have h : c / 6 % 3 = 0 ∨ c / 6 % 3 = 1 ∨ c / 6 % 3 = 2 := by omega
      rcases h with h | h | h <;> rw [h]
      · exact ⟨2, .inl rfl, rfl⟩
      · exact ⟨4, .inr (.inl rfl), rfl⟩
      · exact ⟨8, .inr (.inr rfl), rfl⟩
    have s2 : dSet 5 (dBin pIx (dPrim pLst (aCons (dC (.int 2)) (aCons (dC (.int 4)) (aCons (dC (.int 8)) aNil)))) (dBin pMod (dBin pDiv (dPrim (cP (pureOf F_law_cell_at) []) (aCons (dVar 0) (aCons (dC (.int 0)) aNil))) (dC (.int 6))) (dC (.int 3)))) (EC (.lst .ext (ns.map DV.int)) P ps v bg sh (some (.int i))) S = some (.nx (EC (.lst .ext (ns.map DV.int)) P ps v bg w (some (.int i))) S) := by
      have l0 : dPrim pLst (aCons (dC (.int 2)) (aCons (dC (.int 4)) (aCons (dC (.int 8)) aNil))) (EC (.lst .ext (ns.map DV.int)) P ps v bg sh (some (.int i))) S = some (.lst .own [.int 2, .int 4, .int 8], S) := rfl
      have d0 : dBin pMod (dBin pDiv (dPrim (cP (pureOf F_law_cell_at) []) (aCons (dVar 0) (aCons (dC (.int 0)) aNil))) (dC (.int 6))) (dC (.int 3)) (EC (.lst .ext (ns.map DV.int)) P ps v bg sh (some (.int i))) S = some (.int (c / 6 % 3), S) := by
        rw [v_bin, v_bin, a0 _ rfl]
        simp only [v_c, v_divI (show (0 : Int) < 6 by decide) (by decide), v_modI (show (0 : Int) < 3 by decide)]
      rw [v_set, v_bin, l0]
      simp only [d0, e]
      rfl
    refine ⟨v, w, hw, ?_⟩
    rw [decide_eq_true q]
    simp only
    rw [v_seq, s1]
    simp only
    rw [s2]
  · refine ⟨z, sh, hs, ?_⟩
    rw [decide_eq_false q]
    rfl
theorem ct23_ok (hz : ps.length < 60) {z sh : Int} (hs : sh = 2 ∨ sh = 4 ∨ sh = 8) {i : Nat} {ks : List (Nat × List Str)} (hk : ks.length < 1000) :
    ∃ (z' : Int) (ks' : List (Nat × List Str)), (ks' = ks ∨ ∃ bs, (∀ s ∈ bs, s ∈ ps) ∧ ks' = ks ++ [(i, bs)]) ∧ (dSeq ct2 ct3) (EC (.lst .ext (ns.map DV.int)) P ps z bg sh (some (.int i))) [.lst ((ksD ks).map kpD)] = some (.nx (EC (.lst .ext (ns.map DV.int)) P ps z' bg sh (some (.int i))) [.lst ((ksD ks').map kpD)]) := by
  have sp : 0 < sh ∧ sh < 18446744073709551616 := by rcases hs with h | h | h <;> rw [h] <;> decide
  let ρ := EC (.lst .ext (ns.map DV.int)) P ps z bg sh (some (.int i))
  have v3 : ∀ S : Sto, dVar 3 ρ S = some (.int z, S) := fun _ => rfl
  have v5 : ∀ S : Sto, dVar 5 ρ S = some (.int sh, S) := fun _ => rfl
  have v2 : ∀ S : Sto, dVar 2 ρ S = some (.lst .own (ps.map .str), S) := fun _ => rfl
  have v6 : ∀ S : Sto, dVar 6 ρ S = some (.loc 0, S) := fun _ => rfl
  have v7 : ∀ S : Sto, dVar 7 ρ S = some (.int (i : Nat), S) := fun _ => rfl
  have dv : ∀ S : Sto, dBin pDiv (dVar 3) (dVar 5) ρ S = some (.int (z / sh), S) := fun S => by
    rw [v_bin, v3]
    simp only [v5, v_divI sp.1 sp.2]
  have s3 : ∀ S : Sto, ct3 ρ S = some (.nx (EC (.lst .ext (ns.map DV.int)) P ps (z / sh / 2 ^ ps.length) bg sh (some (.int i))) S) := fun S => by
    have l0 : dPrim pLen (aCons (dVar 2) aNil) ρ S = some (.int ps.length, S) := by
      show some (DV.int ((ps.map DV.str).length : Nat), S) = _
      rw [List.length_map]
    have p := pow60 hz
    show dSet _ _ _ _ = _
    rw [v_set, v_bin, dv]
    simp only
    rw [v_bin, v_c]
    simp only [l0, shl1 hz, v_divI p.1 p.2]
    rfl
  have c2 : dBin (pEq false) (dBin pMod (dVar 3) (dVar 5)) (dC (.int 1)) ρ [.lst ((ksD ks).map kpD)] = some (.bl (decide (z % sh = 1)), [.lst ((ksD ks).map kpD)]) := by
    rw [v_bin, v_bin, v3]
    simp only [v5, v_modI sp.1, v_c, v_eqI]
  by_cases q : z % sh = 1
  · refine ⟨z / sh / 2 ^ ps.length, ks ++ [(i, someL ps (z / sh))], .inr ⟨_, fun s h => someL_mem h, rfl⟩, ?_⟩
    have hq : ([.lst ((ksD ks).map kpD)] : Sto)[0]? = some (.lst ((ksD ks).map kpD)) := rfl
    have sm : cP (pureOf F_law_some) [] [.lst .own (ps.map .str), .int (z / sh)] [.lst ((ksD ks).map kpD)] = some (.tup ((someL ps (z / sh)).map .str), [.lst ((ksD ks).map kpD)]) := by
      have p : plainL [DV.lst .own (ps.map .str), .int (z / sh)] = true := by
        have := plainL_strs (ns := ps)
        simp [this]
      simp only [cP_eq, cpL_plain p, some_eq ps hz]
    have a0 : aCons (dPrim pTup (aCons (dVar 7) (aCons (dPrim (cP (pureOf F_law_some) []) (aCons (dVar 2) (aCons (dBin pDiv (dVar 3) (dVar 5)) aNil))) aNil))) aNil ρ [.lst ((ksD ks).map kpD)] = some ([kpD (i, .tup ((someL ps (z / sh)).map .str))], [.lst ((ksD ks).map kpD)]) := by
      have e1 : dPrim (cP (pureOf F_law_some) []) (aCons (dVar 2) (aCons (dBin pDiv (dVar 3) (dVar 5)) aNil)) ρ [.lst ((ksD ks).map kpD)] = some (.tup ((someL ps (z / sh)).map .str), [.lst ((ksD ks).map kpD)]) := by
        rw [v_prim]
        simp only [v_cons, v_nil, v2, dv, sm]
      rw [v_cons, v_prim]
      simp only [v_cons, v_nil, v7, e1, v_pTup]
      rw [if_pos (by rw [size_eq]; show 2 ≤ 16777216; omega)]
    have ap := app_loc (y := kpD (i, .tup ((someL ps (z / sh)).map .str))) hq (by rw [List.length_map, List.length_map]; omega)
    have s2 : ct2 ρ [.lst ((ksD ks).map kpD)] = some (.nx ρ [.lst ((ksD (ks ++ [(i, someL ps (z / sh))])).map kpD)]) := by
      show dIfS _ _ _ _ _ = _
      rw [v_ifS, c2, decide_eq_true q]
      simp only
      rw [v_expr, v_mt, v6]
      simp only [asL_loc hq, a0, ap]
      simp [ksD]
    rw [v_seq, s2]
    simp only
    exact s3 _
  · refine ⟨z / sh / 2 ^ ps.length, ks, .inl rfl, ?_⟩
    have s2 : ct2 ρ [.lst ((ksD ks).map kpD)] = some (.nx ρ [.lst ((ksD ks).map kpD)]) := by
      show dIfS _ _ _ _ _ = _
      rw [v_ifS, c2, decide_eq_false q]
      rfl
    rw [v_seq, s2]
    simp only
    exact s3 _
theorem cut_loop {ns : List Int} {ps bg : List Str} (hz : ps.length < 60) (n : Nat) (hn : n < 900) {P : DV} (z0 : Int) :
    ∃ y7 z sh ks, Cut n ps [] ks ∧ forL (gSet 7) ctB (rgD 0 n) (EC (.lst .ext (ns.map DV.int)) P ps z0 bg 2 none) [.lst []] = some (.nx (EC (.lst .ext (ns.map DV.int)) P ps z bg sh y7) [.lst ((ksD ks).map kpD)]) := by
  obtain ⟨ρ', S', el, z, sh, ks, y7, h1, h2, h3, h4, h5, rfl, rfl⟩ := forL_inv (g := gSet 7) (body := ctB) (I := fun i ρ S => ∃ (z sh : Int) (ks : List (Nat × List Str)) (y7 : Option DV), (sh = 2 ∨ sh = 4 ∨ sh = 8) ∧ (ks.map (·.1)).Pairwise (· < ·) ∧ (∀ k ∈ ks, k.1 < i) ∧ (∀ k ∈ ks, ∀ s ∈ k.2, s ∈ ps) ∧ ks.length ≤ i ∧ ρ = EC (.lst .ext (ns.map DV.int)) P ps z bg sh y7 ∧ S = [.lst ((ksD ks).map kpD)]) (ds := rgD 0 n) (k := 0) (ρ := EC (.lst .ext (ns.map DV.int)) P ps z0 bg 2 none) (S := [.lst []])
    ⟨z0, 2, [], none, .inl rfl, List.Pairwise.nil, (fun k h => nomatch h), (fun k h => nomatch h), Nat.le_refl _, rfl, rfl⟩ fun i d ρ S hd hi => by
    obtain ⟨z, sh, ks, y7, h1, h2, h3, h4, h5, rfl, rfl⟩ := hi
    rw [Nat.zero_add] at h3 h5
    have hd2 : i < n ∧ d = .int (i : Nat) := by
      rw [rg_iN] at hd
      unfold iN at hd
      rw [List.getElem?_map] at hd
      cases hg : (List.range n)[i]? with
      | none => rw [hg] at hd; cases hd
      | some j =>
        rw [hg] at hd
        obtain ⟨h1, h2⟩ := List.getElem?_eq_some_iff.mp hg
        rw [List.getElem_range] at h2
        rw [List.length_range] at h1
        cases hd
        rw [← h2]
        exact ⟨h1, rfl⟩
    obtain ⟨hi2, rfl⟩ := hd2
    obtain ⟨z1, sh1, hs1, e1⟩ := ct1_ok (ns := ns) (P := P) (ps := ps) (bg := bg) (z := z) h1 (i := i) (by omega) (S := [.lst ((ksD ks).map kpD)])
    obtain ⟨z2, ks2, hks, e2⟩ := ct23_ok (ns := ns) (P := P) (bg := bg) hz (z := z1) hs1 (i := i) (ks := ks) (by omega)
    refine ⟨_, _, EC (.lst .ext (ns.map DV.int)) P ps z2 bg sh1 (some (.int i)), [.lst ((ksD ks2).map kpD)], rfl, .inl ?_, z2, sh1, ks2, some (.int i), hs1, ?_, ?_, ?_, ?_, rfl, rfl⟩
    · show dSeq _ _ _ _ = _
      rw [v_seq]
      rw [show ct1 (List.set (EC (.lst .ext (ns.map DV.int)) P ps z bg sh y7) 7 (some (.int (i : Nat)))) [.lst ((ksD ks).map kpD)] = _ from e1]
      simp only
      exact e2
    · rcases hks with rfl | ⟨bs, hb, rfl⟩
      · exact h2
      · rw [List.map_append]
        refine List.pairwise_append.mpr ⟨h2, List.pairwise_singleton _ _, fun a ha b hb => ?_⟩
        obtain ⟨k, hk, rfl⟩ := List.mem_map.mp ha
        rw [List.mem_singleton.mp hb]
        exact h3 k hk
    · intro k hk
      rcases hks with rfl | ⟨bs, hb, rfl⟩
      · have := h3 k hk
        omega
      · rcases List.mem_append.mp hk with w | w
        · have := h3 k w
          omega
        · rw [List.mem_singleton.mp w]
          show i < 0 + i + 1
          omega
    · intro k hk
      rcases hks with rfl | ⟨bs, hb, rfl⟩
      · exact h4 k hk
      · rcases List.mem_append.mp hk with w | w
        · exact h4 k w
        · rw [List.mem_singleton.mp w]
          exact hb
    · rcases hks with rfl | ⟨bs, hb, rfl⟩
      · omega
      · rw [List.length_append, List.length_singleton]
        omega
  rw [Nat.zero_add, len_rgD] at h3 h5
  exact ⟨y7, z, sh, ks, ⟨(fun s h => nomatch h), h2, h3, h4⟩, el⟩
theorem cutting_ok (ns : List Int) {cells shelves : List (Str × Int × Bool)} {rows : List PRow} (hn : rows.length < 900) (ps : List Str) (hz : ps.length < 60) :
    ∃ bg ks, Cut rows.length ps bg ks ∧ pureOf F_law_cutting [.lst .ext (ns.map DV.int), PD cells shelves rows, .lst .own (ps.map .str)] = some (cdD (.tup (bg.map .str)) (ksD ks)) := by
  let Sc : DV := .lst .ext (ns.map DV.int)
  let P := PD cells shelves rows
  obtain ⟨z, hb⟩ := big_eq ns 4 (by omega)
  let bg := someL ps z
  obtain ⟨y7, z', sh', ks, C, el⟩ := cut_loop (ns := ns) (bg := bg) hz rows.length hn (P := P) (z / 2 ^ ps.length)
  refine ⟨bg, ks, ⟨fun s h => someL_mem h, C.up, C.lt, C.k⟩, pureOf_of (S' := [.lst ((ksD ks).map kpD)]) ?_ (cdD_plain (by rw [plain_tup]; exact plainL_strs) fun k hk => by
    obtain ⟨k0, _, rfl⟩ := List.mem_map.mp hk
    rw [plain_tup]
    exact plainL_strs)⟩
  have pS : plainL [Sc, .int 4] = true := by simp [Sc]
  have cb : cP (pureOf F_law_big) [] [Sc, .int 4] ([] : Sto) = some (.int z, []) := by
    have : pureOf F_law_big [Sc, .int 4] = some (.int z) := hb
    simp only [cP_eq, cpL_plain pS, this]
  have sm : cP (pureOf F_law_some) [] [.lst .own (ps.map .str), .int z] ([] : Sto) = some (.tup (bg.map .str), []) := by
    have p : plainL [DV.lst .own (ps.map .str), .int z] = true := by
      have := plainL_strs (ns := ps)
      simp [this]
    simp only [cP_eq, cpL_plain p, some_eq ps hz]
    rfl
  let ρ (x3 x4 x5 x6 : Option DV) : List (Option DV) := [some Sc, some P, some (.lst .own (ps.map .str)), x3, x4, x5, x6, none]
  have s1 : dSet 3 (dPrim (cP (pureOf F_law_big) []) (aCons (dVar 0) (aCons (dC (.int 4)) aNil))) (ρ none none none none) [] = some (.nx (ρ (some (.int z)) none none none) []) := by
    have a0 : aCons (dVar 0) (aCons (dC (.int 4)) aNil) (ρ none none none none) ([] : Sto) = some ([Sc, .int 4], []) := rfl
    rw [v_set, v_prim]
    simp only [a0, cb]
    rfl
  have s2 : dSet 4 (dPrim (cP (pureOf F_law_some) []) (aCons (dVar 2) (aCons (dVar 3) aNil))) (ρ (some (.int z)) none none none) [] = some (.nx (ρ (some (.int z)) (some (.tup (bg.map .str))) none none) []) := by
    have a0 : aCons (dVar 2) (aCons (dVar 3) aNil) (ρ (some (.int z)) none none none) ([] : Sto) = some ([.lst .own (ps.map .str), .int z], []) := rfl
    rw [v_set, v_prim]
    simp only [a0, sm]
    rfl
  have s3 : dSet 3 (dBin pDiv (dVar 3) (dBin pShl (dC (.int 1)) (dPrim pLen (aCons (dVar 2) aNil)))) (ρ (some (.int z)) (some (.tup (bg.map .str))) none none) [] = some (.nx (ρ (some (.int (z / 2 ^ ps.length))) (some (.tup (bg.map .str))) none none) []) := by
    have l0 : dPrim pLen (aCons (dVar 2) aNil) (ρ (some (.int z)) (some (.tup (bg.map .str))) none none) ([] : Sto) = some (.int ps.length, []) := by
      show some (DV.int ((ps.map DV.str).length : Nat), ([] : Sto)) = _
      rw [List.length_map]
    have v3 : dVar 3 (ρ (some (.int z)) (some (.tup (bg.map .str))) none none) ([] : Sto) = some (.int z, []) := rfl
    have p := pow60 hz
    rw [v_set, v_bin, v3]
    simp only
    rw [v_bin, v_c]
    simp only [l0, shl1 hz, v_divI p.1 p.2]
    rfl
  have ir : iRange1 (aCons (dPrim pLen (aCons (dBin pIx (dVar 1) (dC (.int 2))) aNil)) aNil) (EC Sc P ps (z / 2 ^ ps.length) bg 2 none) [.lst []] = some (rgD 0 rows.length, [.lst []]) := by
    have l2 : dPrim pLen (aCons (dBin pIx (dVar 1) (dC (.int 2))) aNil) (EC Sc P ps (z / 2 ^ ps.length) bg 2 none) [.lst []] = some (.int rows.length, [.lst []]) := by
      show some (DV.int ((rows.map PRow.d).length : Nat), _) = _
      rw [List.length_map]
    unfold iRange1
    simp only [v_cons, v_nil, l2]
    rw [if_pos (by omega), Int.toNat_natCast]
  unfold F_law_cutting b_law_cutting runF
  show (match (dSeq _ _ (ρ none none none none) [] : Option Out) with | some (.rt d S') => some (d, S') | some (.nx _ S') => some (.non, S') | _ => none) = _
  rw [v_seq, s1]
  simp only
  rw [v_seq, s2]
  simp only
  rw [v_seq, s3]
  simp only
  rw [v_seq, show dSet 5 (dC (.int 2)) (ρ (some (.int (z / 2 ^ ps.length))) (some (.tup (bg.map .str))) none none) ([] : Sto) = some (.nx (ρ (some (.int (z / 2 ^ ps.length))) (some (.tup (bg.map .str))) (some (.int 2)) none) []) from rfl]
  simp only
  rw [v_seq, show dSet 6 (dPrim pLstM aNil) (ρ (some (.int (z / 2 ^ ps.length))) (some (.tup (bg.map .str))) (some (.int 2)) none) ([] : Sto) = some (.nx (EC Sc P ps (z / 2 ^ ps.length) bg 2 none) [.lst []]) from rfl]
  simp only
  rw [v_seq, v_for, ir]
  simp only
  rw [show forL (gSet 7) ctB (rgD 0 rows.length) _ _ = _ from el]
  rfl
end
end Lk34

namespace Lk34
open PySem PySem.Spec PyProof.Rows L2 Dn
theorem goodStrs {l : List Str} (h : ∀ s ∈ l, IsW s) : goodL (l.map .str) = true ∧ deepL (l.map DV.str) = 0 := by
  induction l with
  | nil => exact ⟨rfl, rfl⟩
  | cons s l ih =>
    obtain ⟨h1, h2⟩ := ih fun c hc => h c (List.mem_cons_of_mem _ hc)
    have h3 := (h s List.mem_cons_self).ok
    refine ⟨?_, ?_⟩
    · show (PyData.strOk s && goodL (l.map .str)) = true
      rw [h1, h3] <;> rfl
    · show max 0 (deepL (l.map .str)) = 0
      rw [h2] <;> rfl
theorem rowGood {bl : List Str} {cells shelves : List (Str × Int × Bool)} {many : Nat} (W : Wrl bl cells shelves) {r : PRow} (h : RowW bl (cells.map (·.1)) (shelves.map (·.1)) many r) : good r.d = true ∧ deep r.d ≤ 1 := by
  have gs : ∀ {s : Str}, s ∈ bl → PyData.strOk s = true := fun {s} hs => (W.bw s hs).ok
  have ga : ∀ {a : Atm}, a ∈ atomsL r → good a.d = true ∧ deep a.d = 0 := fun {a} ha => by
    cases a with
    | n i => exact ⟨rfl, rfl⟩
    | x s => exact ⟨gs ((h.at_ _ ha).2 s rfl), rfl⟩
  have gk : ∀ {cs : List (Str × Int × Bool)} {c : Str}, (∀ d ∈ cs, IsW d.1) → hasK ((cs.map (·.1)).map fun s => (Sum.inr s : Key)) (.inr c) = true → PyData.strOk c = true := fun {cs c} hw hk => by
    unfold hasK at hk
    obtain ⟨k, hk1, hk2⟩ := List.any_eq_true.mp hk
    have hk2 := of_decide_eq_true hk2
    subst hk2
    obtain ⟨s, hs, e⟩ := List.mem_map.mp hk1
    obtain ⟨d, hd, rfl⟩ := List.mem_map.mp hs
    cases e
    exact (hw d hd).ok
  have gg : ∀ {x : Str}, givesL r = some x → PyData.strOk x = true := fun {x} hx => gs (h.gv x hx)
  have hok := h.ok
  have sgn : ∀ {s : Str}, isSign s → PyData.strOk s = true := fun {s} hs => by
    rcases hs with rfl | rfl | rfl | rfl | rfl | rfl | rfl | rfl <;> decide +kernel
  have two : ∀ {ds : List DV}, goodL ds = true → deepL ds = 0 → good (.tup ds) = true ∧ deep (.tup ds) ≤ 1 := fun {ds} h1 h2 => ⟨h1, by show deepL ds + 1 ≤ 1; rw [h2] <;> exact Nat.le_refl _⟩
  have gl : ∀ (d : DV) (ds : List DV), goodL (d :: ds) = (good d && goodL ds) := fun _ _ => rfl
  have gn : goodL [] = true := rfl
  have dl : ∀ (d : DV) (ds : List DV), deepL (d :: ds) = max (deep d) (deepL ds) := fun _ _ => rfl
  have dn : deepL [] = 0 := rfl
  have gS : ∀ s : Str, good (.str s) = PyData.strOk s := fun _ => rfl
  have gI : ∀ i : Int, good (.int i) = true := fun _ => rfl
  have dS : ∀ s : Str, deep (.str s) = 0 := fun _ => rfl
  have dI : ∀ i : Int, deep (.int i) = 0 := fun _ => rfl
  have k1 : PyData.strOk "say" = true := by decide +kernel
  have k2 : PyData.strOk "copy" = true := by decide +kernel
  have k3 : PyData.strOk "op" = true := by decide +kernel
  have k4 : PyData.strOk "load" = true := by decide +kernel
  have k5 : PyData.strOk "store" = true := by decide +kernel
  have k6 : PyData.strOk "take" = true := by decide +kernel
  have k7 : PyData.strOk "lay" = true := by decide +kernel
  have k8 : PyData.strOk "hear" = true := by decide +kernel
  have k9 : PyData.strOk "if" = true := by decide +kernel
  have k10 : PyData.strOk "go" = true := by decide +kernel
  have k11 : PyData.strOk "end" = true := by decide +kernel
  have cW : ∀ d ∈ cells, IsW d.1 := fun d hd => (W.cw d hd).1
  have sW : ∀ d ∈ shelves, IsW d.1 := fun d hd => (W.sw d hd).1
  cases r with
  | say a =>
    have ha := ga (a := a) List.mem_cons_self
    exact two (by simp [gl, gn, gS, k1, ha]) (by simp [dl, dn, dS, ha])
  | copy x a =>
    have ha := ga (a := a) List.mem_cons_self
    have hx := gg rfl
    exact two (by simp [gl, gn, gS, k2, ha, hx]) (by simp [dl, dn, dS, ha])
  | op x s a b =>
    have ha := ga (a := a) List.mem_cons_self
    have hb := ga (a := b) (List.mem_cons_of_mem _ List.mem_cons_self)
    have hx := gg rfl
    have hs := sgn hok.1
    exact two (by simp [gl, gn, gS, k3, ha, hb, hx, hs]) (by simp [dl, dn, dS, ha, hb])
  | load x c =>
    have hx := gg rfl
    have hc := gk cW hok
    exact two (by simp [gl, gn, gS, k4, hx, hc]) (by simp [dl, dn, dS])
  | store c a =>
    have ha := ga (a := a) List.mem_cons_self
    have hc := gk cW hok.1
    exact two (by simp [gl, gn, gS, k5, ha, hc]) (by simp [dl, dn, dS, ha])
  | take x s a =>
    have ha := ga (a := a) List.mem_cons_self
    have hx := gg rfl
    have hc := gk sW hok.1
    exact two (by simp [gl, gn, gS, k6, ha, hx, hc]) (by simp [dl, dn, dS, ha])
  | lay s a b =>
    have ha := ga (a := a) List.mem_cons_self
    have hb := ga (a := b) (List.mem_cons_of_mem _ List.mem_cons_self)
    have hc := gk sW hok.1
    exact two (by simp [gl, gn, gS, k7, ha, hb, hc]) (by simp [dl, dn, dS, ha, hb])
  | hear x =>
    have hx := gg rfl
    exact two (by simp [gl, gn, gS, k8, hx]) (by simp [dl, dn, dS])
  | ifr a n =>
    have ha := ga (a := a) List.mem_cons_self
    exact two (by simp [gl, gn, gS, gI, k9, ha]) (by simp [dl, dn, dS, dI, ha])
  | go n => exact two (by simp [gl, gn, gS, gI, k10]) (by simp [dl, dn, dS, dI])
  | endr a =>
    have ha := ga (a := a) List.mem_cons_self
    exact two (by simp [gl, gn, gS, k11, ha]) (by simp [dl, dn, dS, ha])
theorem rowsGood {rows : List PRow} (h : ∀ r ∈ rows, good r.d = true ∧ deep r.d ≤ 1) : goodL (rows.map PRow.d) = true ∧ deepL (rows.map PRow.d) ≤ 1 := by
  induction rows with
  | nil => exact ⟨rfl, Nat.zero_le _⟩
  | cons r rows ih =>
    obtain ⟨h1, h2⟩ := ih fun r hr => h r (List.mem_cons_of_mem _ hr)
    obtain ⟨k1, k2⟩ := h r List.mem_cons_self
    refine ⟨?_, ?_⟩
    · show (good r.d && goodL (rows.map PRow.d)) = true
      rw [k1, h1] <;> rfl
    · show max (deep r.d) (deepL (rows.map PRow.d)) ≤ 1
      omega
theorem eq_same {S : Sto} {d : DV} (hp : plain d = true) (hg : good d = true) (hd : deep d ≤ 64) (hs : scD d d = none) : pEq false d d S = some (.bl true, S) := by
  obtain ⟨p, h1, h2, h3⟩ := toPy_good hg
  have e := eqDeep_same (S := S) (cpD_plain hp) (cpD_plain hp) h1 h1 h2 (by omega)
  show (match eqD S d d with | some b => some (DV.bl (if (false : Bool) then !b else b), S) | none => none) = _
  unfold eqD
  rw [hs]
  simp only
  rw [e]
  rfl
theorem prog_same {S : Sto} {bl : List Str} {cells shelves : List (Str × Int × Bool)} {rows : List PRow} (P : Prg bl cells shelves rows) : pEq false (prD cells shelves rows) (prD cells shelves rows) S = some (.bl true, S) := by
  obtain ⟨g1, d1⟩ := tD_good (cs := cells) fun c hc => (P.w.cw c hc).1
  obtain ⟨g2, d2⟩ := tD_good (cs := shelves) fun c hc => (P.w.sw c hc).1
  obtain ⟨g3, d3⟩ := rowsGood fun r hr => rowGood P.w (P.rw r hr)
  refine eq_same prD_plain ?_ ?_ rfl
  · show (goodL (cells.map tD) && (goodL (shelves.map tD) && (goodL (rows.map PRow.d) && true))) = true
    rw [g1, g2, g3] <;> rfl
  · show max (deepL (cells.map tD) + 1) (max (deepL (shelves.map tD) + 1) (max (deepL (rows.map PRow.d) + 1) 0)) + 1 ≤ 64
    omega
end Lk34

namespace Lk34
open PySem PySem.Spec PyProof.Rows L2 Dn
/-! ### the pool of names -/
theorem strsD_map : ∀ xs : List Str, strsD (xs.map .str) = some xs
  | [] => rfl
  | x :: xs => by
    show (match strsD (xs.map DV.str) with | some ys => some (x :: ys) | none => none) = _
    rw [strsD_map xs]
theorem isW_zz : IsW "zz" := ⟨[122, 122], by decide +kernel, by decide, by decide, by decide⟩
theorem pool_ok (ns : List Int) {bl : List Str} {cells shelves : List (Str × Int × Bool)} {rest : Int} (W : Wrl bl cells shelves) (hw : pureOf F_law_world [.lst .ext (ns.map DV.int)] = some (wD bl cells shelves rest)) :
    ∃ ps : List Str, (∀ s ∈ ps, IsW s) ∧ ps.length < 60 ∧ pureOf F_law_pool [.lst .ext (ns.map DV.int)] = some (.lst .own (ps.map .str)) := by
  let Sc : DV := .lst .ext (ns.map DV.int)
  have bm := W.bm
  let c1 : List Str := (cells.take 1).map (·.1)
  let xs : List Str := bl ++ c1 ++ [("zz" : Str)]
  have c1l : c1.length ≤ 1 := by
    show ((cells.take 1).map (·.1)).length ≤ 1
    rw [List.length_map, List.length_take]
    omega
  have xl : xs.length ≤ 14 := by
    show (bl ++ c1 ++ [("zz" : Str)]).length ≤ 14
    rw [List.length_append, List.length_append]
    show bl.length + c1.length + 1 ≤ 14
    omega
  have dl := ddp_le xs
  refine ⟨sortS (ddp xs), fun s hs => ?_, by rw [(sortS_perm _).length_eq]; omega, pureOf_of (S' := []) ?_ (by rw [plain_own]; exact plainL_strs)⟩
  · have h1 := mem_ddp.mp ((sortS_perm _).mem_iff.mp hs)
    rcases List.mem_append.mp h1 with h | h
    · rcases List.mem_append.mp h with h | h
      · exact W.bw s h
      · obtain ⟨c, hc, rfl⟩ := List.mem_map.mp h
        exact (W.cw c (List.mem_of_mem_take hc)).1
    · rw [List.mem_singleton.mp h]
      exact isW_zz
  let B : DV := .lst .own (bl.map .str)
  let ρ : List (Option DV) := [some Sc, some B, some (.tup (cells.map tD)), some (.tup (shelves.map tD)), some (.int rest), none]
  have cw : cP (pureOf F_law_world) [] [Sc] ([] : Sto) = some (wD bl cells shelves rest, []) := by
    have hw' : pureOf F_law_world [Sc] = some (wD bl cells shelves rest) := hw
    simp only [cP_eq, cpL_plain (show plainL [Sc] = true by simp [Sc]), hw']
  have s1 : dAsg (dPrim (cP (pureOf F_law_world) []) (aCons (dVar 0) aNil)) (gTupD 4 (gsCons (gSet 1) (gsCons (gSet 2) (gsCons (gSet 3) (gsCons (gSet 4) gsNil))))) [some Sc, none, none, none, none, none] [] = some (.nx ρ []) := by
    have a0 : aCons (dVar 0) aNil [some Sc, none, none, none, none, none] ([] : Sto) = some ([Sc], []) := rfl
    have e : dPrim (cP (pureOf F_law_world) []) (aCons (dVar 0) aNil) [some Sc, none, none, none, none, none] ([] : Sto) = some (wD bl cells shelves rest, []) := by
      rw [v_prim]
      simp only [a0, cw]
    show (match dPrim (cP (pureOf F_law_world) []) (aCons (dVar 0) aNil) [some Sc, none, none, none, none, none] ([] : Sto) with | some (d, S1) => _ | none => _) = _
    rw [e]
    rfl
  have sl : dSl pSl (dVar 2) oNone (oSome (dC (.int 1))) ρ [] = some (.tup ((cells.take 1).map tD), []) := by
    have : pSl (.tup (cells.map tD)) none (some 1) ([] : Sto) = some (.tup ((cells.take 1).map tD), []) := by
      rw [v_slT]
      have e : Dn.cutD (cells.map tD) none (some 1) = (cells.take 1).map tD := by
        unfold Dn.cutD
        rw [show HT.sIx (cells.map tD).length 0 none = 0 from rfl, List.drop_zero, Nat.sub_zero]
        have : HT.sIx (cells.map tD).length (cells.map tD).length (some 1) = min 1 (cells.map tD).length := rfl
        rw [this, List.map_take]
        cases cells with
        | nil => rfl
        | cons c cs =>
          rw [show min 1 ((c :: cs).map tD).length = 1 by simp]
      rw [e]
    exact this
  have lc : dLc (iSeq (dSl pSl (dVar 2) oNone (oSome (dC (.int 1))))) (gSet 5) (dC (.bl true)) (dBin pIx (dVar 5) (dC (.int 0))) [5] ρ [] = some (.lst .own (c1.map .str), []) := by
    have i1 : iSeq (dSl pSl (dVar 2) oNone (oSome (dC (.int 1)))) ρ [] = some ((cells.take 1).map tD, []) := by
      rw [iSeq_eq, sl]
    have hl : lcL (gSet 5) (dC (.bl true)) (dBin pIx (dVar 5) (dC (.int 0))) ρ ((cells.take 1).map tD) [] = some (c1.map .str, []) := by
      have := lcL_fm (D := tD) (E := fun c : Str × Int × Bool => DV.str c.1) (p := fun _ => true) (g := gSet 5) (c := dC (.bl true)) (fe := dBin pIx (dVar 5) (dC (.int 0))) (ρ := ρ) (S := []) (K := cells.take 1) fun c hc => ⟨[some Sc, some B, some (.tup (cells.map tD)), some (.tup (shelves.map tD)), some (.int rest), some (tD c)], rfl, rfl, rfl⟩
      rw [this, List.filter_eq_self.mpr fun _ _ => rfl, List.map_map]
      rfl
    exact dLc_of i1 (by rw [show dwipe ρ [5] = ρ from rfl]; exact hl) (size_ok (by rw [List.length_map]; omega))
  have sum : dBin pAdd (dBin pAdd (dVar 1) (dLc (iSeq (dSl pSl (dVar 2) oNone (oSome (dC (.int 1))))) (gSet 5) (dC (.bl true)) (dBin pIx (dVar 5) (dC (.int 0))) [5])) (dPrim pLst (aCons (dC (.str "zz")) aNil)) ρ [] = some (.lst .own (xs.map .str), []) := by
    have v1 : dVar 1 ρ ([] : Sto) = some (B, []) := rfl
    have z0 : dPrim pLst (aCons (dC (.str "zz")) aNil) ρ ([] : Sto) = some (.lst .own [.str "zz"], []) := rfl
    have a1 : dBin pAdd (dVar 1) (dLc (iSeq (dSl pSl (dVar 2) oNone (oSome (dC (.int 1))))) (gSet 5) (dC (.bl true)) (dBin pIx (dVar 5) (dC (.int 0))) [5]) ρ [] = some (.lst .own ((bl ++ c1).map .str), []) := by
      rw [v_bin, v1]
      simp only [lc]
      rw [v_addL (by decide) (by decide), if_pos (by simp only [List.length_map, size_eq]; omega), ← List.map_append]
    rw [v_bin, a1]
    simp only [z0]
    rw [v_addL (by decide) (by decide), if_pos (by simp only [List.length_map, List.length_append, size_eq, List.length_cons, List.length_nil]; omega)]
    show some (DV.lst .own ((bl ++ c1).map .str ++ [.str "zz"]), ([] : Sto)) = some (.lst .own ((bl ++ c1 ++ [("zz" : Str)]).map .str), [])
    rw [List.map_append (l₁ := bl ++ c1)]
    rfl
  have s2 : dSortSet (dBin pAdd (dBin pAdd (dVar 1) (dLc (iSeq (dSl pSl (dVar 2) oNone (oSome (dC (.int 1))))) (gSet 5) (dC (.bl true)) (dBin pIx (dVar 5) (dC (.int 0))) [5])) (dPrim pLst (aCons (dC (.str "zz")) aNil))) ρ [] = some (.lst .own ((sortS (ddp xs)).map .str), []) := by
    unfold dSortSet
    rw [sum]
    have e1 : asL ([] : Sto) (.lst .own (xs.map .str)) = some (xs.map .str) := rfl
    simp only [e1, strsD_map]
    rw [if_pos ⟨by omega, by omega⟩]
  unfold F_law_pool b_law_pool runF
  show (match (dSeq _ _ [some Sc, none, none, none, none, none] [] : Option Out) with | some (.rt d S') => some (d, S') | some (.nx _ S') => some (.non, S') | _ => none) = _
  rw [v_seq, s1]
  simp only
  rw [v_ret, s2]
end Lk34

namespace Lk34
open PySem PySem.Spec PyProof.Rows L2 Dn
theorem mayL_of {cs : List (Str × Int × Bool)} (hn : (cs.map (·.1)).Nodup) {c : Str × Int × Bool} (hc : c ∈ cs) : mayL c.1 cs = !c.2.2 := by
  induction cs with
  | nil => cases hc
  | cons d cs ih =>
    rw [List.map_cons, List.nodup_cons] at hn
    unfold mayL
    rcases List.mem_cons.mp hc with e | e
    · subst e
      rw [if_pos rfl]
    · rw [if_neg fun z => hn.1 (List.mem_map.mpr ⟨c, e, z.symm⟩)]
      exact ih hn.2 e
/-- told in (shelves): some truth, and so where it is one -/
theorem in_shelves {S : Sto} {cs : List (Str × Int × Bool)} {c : Str × Int × Bool} (hw : ∀ d ∈ cs, IsW d.1) (hc : IsW c.1) : ∃ sh, pInT false (tD c) (.tup (cs.map tD)) S = some (.bl sh, S) ∧ (c ∈ cs → sh = true) := by
  obtain ⟨g1, g2⟩ := tD_good (cs := cs) hw
  obtain ⟨ps, h1, h2, h3⟩ := toPyL_good g1
  have g0 : good (tD c) = true ∧ deep (tD c) ≤ 1 := by
    obtain ⟨a, b⟩ := tD_good (cs := [c]) fun d hd => by rw [List.mem_singleton.mp hd]; exact hc
    have a' : (good (tD c) && true) = true := a
    rw [Bool.and_true] at a'
    have b' : max (deep (tD c)) 0 ≤ 1 := b
    exact ⟨a', by omega⟩
  obtain ⟨p, k1, k2, k3⟩ := toPy_good g0.1
  have s1 : SeqAt.shaped p = true := by
    unfold SeqAt.shaped
    rw [k2, decide_eq_true (show p.depth ≤ 64 by omega)] <;> rfl
  have s2 : SeqAt.shaped (.tuple ps) = true := by
    unfold SeqAt.shaped
    rw [show (PyData.tuple ps).canLay0 = true from h2, decide_eq_true (show (PyData.tuple ps).depth ≤ 64 from by show PyData.depthAll ps + 1 ≤ 64; omega)] <;> rfl
  refine ⟨ps.any fun z => PyData.eqv z p, ?_, fun hm => ?_⟩
  · unfold pInT
    simp only [k1, h1]
    rw [if_pos ⟨s1, s2⟩]
    rfl
  · have mem : ∀ (ds : List DV) (qs : List PyData), toPyL ds = some qs → tD c ∈ ds → p ∈ qs := by
      intro ds
      induction ds with
      | nil => intro qs _ h; cases h
      | cons d ds ih =>
        intro qs hq h
        unfold toPyL at hq
        split at hq
        · rename_i e he
          split at hq
          · rename_i es hes
            cases hq
            rcases List.mem_cons.mp h with z | z
            · rw [← z, k1] at he
              cases he
              exact List.mem_cons_self
            · exact List.mem_cons_of_mem _ (ih es hes z)
          · cases hq
        · cases hq
    exact List.any_eq_true.mpr ⟨p, mem _ ps h1 (List.mem_map.mpr ⟨c, hm, rfl⟩), SeqAt.eqv_refl p k2⟩
theorem code_same {S : Sto} {bg ps : List Str} {ks : List (Nat × List Str)} {n : Nat} (C : Cut n ps bg ks) (hw : ∀ s ∈ ps, IsW s) : pEq false (cdD (.tup (bg.map .str)) (ksD ks)) (cdD (.tup (bg.map .str)) (ksD ks)) S = some (.bl true, S) := by
  have pp : plain (cdD (.tup (bg.map .str)) (ksD ks)) = true := cdD_plain (by rw [plain_tup]; exact plainL_strs) fun k hk => by
    obtain ⟨k0, _, rfl⟩ := List.mem_map.mp hk
    rw [plain_tup]
    exact plainL_strs
  obtain ⟨b1, b2⟩ := goodStrs (l := bg) fun s hs => hw s (C.b s hs)
  have kk : goodL ((ksD ks).map kpD) = true ∧ deepL ((ksD ks).map kpD) ≤ 2 := by
    have gen : ∀ l : List (Nat × List Str), (∀ k ∈ l, ∀ s ∈ k.2, IsW s) → goodL ((ksD l).map kpD) = true ∧ deepL ((ksD l).map kpD) ≤ 2 := by
      intro l
      induction l with
      | nil => intro _; exact ⟨rfl, Nat.zero_le _⟩
      | cons k l ih =>
        intro h
        obtain ⟨i1, i2⟩ := ih fun x hx => h x (List.mem_cons_of_mem _ hx)
        obtain ⟨c1, c2⟩ := goodStrs (l := k.2) (h k List.mem_cons_self)
        refine ⟨?_, ?_⟩
        · show ((true && (goodL (k.2.map .str) && true)) && goodL ((ksD l).map kpD)) = true
          rw [c1, i1] <;> rfl
        · show max (max 0 (max (deepL (k.2.map DV.str) + 1) 0) + 1) (deepL ((ksD l).map kpD)) ≤ 2
          omega
    exact gen ks fun k hk s hs => hw s (C.k k hk s hs)
  refine eq_same pp ?_ ?_ rfl
  · show (goodL (bg.map .str) && (goodL ((ksD ks).map kpD) && true)) = true
    rw [b1, kk.1] <;> rfl
  · show max (deepL (bg.map DV.str) + 1) (max (deepL ((ksD ks).map kpD) + 1) 0) + 1 ≤ 64
    have := kk.2
    omega
abbrev EL (Sc P : DV) (rows : List PRow) (CD : DV) (x5 x6 x7 : Option DV) : List (Option DV) := [some Sc, some P, some (.tup (rows.map PRow.d)), some CD, some (.loc 0), x5, x6, x7]
abbrev ifB : DS := dIfS (dBin (pIs false) (dVar 7) (dC .non)) (dIfS (dAnd (dNot (dBin pIx (dVar 5) (dC (.int 2)))) (dPrim (cP (pureOf F_law_may) []) (aCons (dVar 2) (aCons (dVar 4) (aCons (dBin pIx (dVar 5) (dC (.int 0))) aNil))))) (dRet (dC (.bl false))) dNext) (dIfS (dOr (dBin pIx (dVar 5) (dC (.int 2))) (dNot (dPrim (cP (pureOf F_law_is_piece) []) (aCons (dVar 2) (aCons (dVar 4) (aCons (dVar 7) aNil)))))) (dRet (dC (.bl false))) (dIfS (dNot (dPrim (cP (pureOf F_law_spoils) []) (aCons (dVar 2) (aCons (dVar 7) (aCons (dBin pIx (dVar 5) (dC (.int 0))) (aCons (dBin (pInT false) (dVar 5) (dBin pIx (dVar 1) (dC (.int 1)))) aNil)))))) (dRet (dC (.bl false))) (dExpr (dMt pAppend (dVar 7) (aCons (dC (.int 0)) aNil)))))
abbrev toB : DS := dSeq (dSet 7 (dPrim (cS F_spoilt []) (aCons (dVar 1) (aCons (dVar 3) (aCons (dBin pIx (dVar 5) (dC (.int 0))) aNil))))) ifB
section
variable {Sc : DV} {bl : List Str} {cells shelves : List (Str × Int × Bool)} {rows : List PRow} {bg ps : List Str} {ks : List (Nat × List Str)} {kp : List Nat}
theorem told_ok (G : Prg bl cells shelves rows) (C : Cut rows.length ps bg ks) (hkp : kp = ks.map (·.1)) {c : Str × Int × Bool} (hc : c ∈ cells ++ shelves) {S : Sto} (h0 : S[0]? = some (sk kp)) {x6 x7 : Option DV} :
    ∃ y7 S', toB (EL Sc (PD cells shelves rows) rows (cdD (.tup (bg.map .str)) (ksD ks)) (some (tD c)) x6 x7) S = some (.nx (EL Sc (PD cells shelves rows) rows (cdD (.tup (bg.map .str)) (ksD ks)) (some (tD c)) x6 y7) S') ∧ S'[0]? = some (sk kp) := by
  let P := PD cells shelves rows
  let CD := cdD (.tup (bg.map .str)) (ksD ks)
  have W := G.w
  have nz := G.nz
  have n0 := G.n0
  have kl : ks.length < 900 := by
    have h1 : (ks.map (·.1)).Nodup := C.up.imp fun h => by omega
    have := nodup_len h1 (m := List.range rows.length) fun x hx => by
      obtain ⟨k, hk, rfl⟩ := List.mem_map.mp hx
      exact List.mem_range.mpr (C.lt k hk)
    rw [List.length_map, List.length_range] at this
    omega
  have hd : (cells ++ shelves).map (·.1) = cells.map (·.1) ++ shelves.map (·.1) := List.map_append
  have nd : ((cells ++ shelves).map (·.1)).Nodup := by rw [hd]; exact W.nd
  have hm := mayL_of nd hc
  have wc : ∀ d ∈ cells ++ shelves, IsW d.1 := fun d h => (List.mem_append.mp h).elim (fun z => (W.cw d z).1) fun z => (W.sw d z).1
  have c8 := W.c8
  have s4 := W.s4
  obtain ⟨d, S', e, R⟩ := spoilt_ok S cells shelves rows (.tup (bg.map .str)) (ksD ks) c.1 (by rw [plain_tup]; exact plainL_strs) (fun k hk => by
    obtain ⟨k0, _, rfl⟩ := List.mem_map.mp hk
    rw [plain_tup]
    exact plainL_strs) (by omega) G.led (by omega) n0 (by rw [List.length_map]; omega) (fun k hk => by
    obtain ⟨k0, hk0, rfl⟩ := List.mem_map.mp hk
    exact C.lt k0 hk0)
  have ekp : (ksD ks).map (·.1) = kp := by
    rw [hkp, List.map_map]
    rfl
  rw [ekp] at R
  have kplt : ∀ k ∈ kp, k < rows.length := fun k hk => by
    rw [hkp] at hk
    obtain ⟨k0, hk0, rfl⟩ := List.mem_map.mp hk
    exact C.lt k0 hk0
  have kpz : kp.length < 900 := by rw [hkp, List.length_map]; exact kl
  let ρ1 (y : Option DV) := EL Sc P rows CD (some (tD c)) x6 y
  have s1 : dSet 7 (dPrim (cS F_spoilt []) (aCons (dVar 1) (aCons (dVar 3) (aCons (dBin pIx (dVar 5) (dC (.int 0))) aNil)))) (EL Sc P rows CD (some (tD c)) x6 x7) S = some (.nx (ρ1 (some d)) S') := by
    have a0 : aCons (dVar 1) (aCons (dVar 3) (aCons (dBin pIx (dVar 5) (dC (.int 0))) aNil)) (EL Sc P rows CD (some (tD c)) x6 x7) S = some ([P, CD, .str c.1], S) := rfl
    have c0 : cS F_spoilt [] [P, CD, .str c.1] S = some (d, S') := e
    rw [v_set, v_prim]
    simp only [a0, c0]
    rfl
  have go : ∀ (o : Option Out), ifB (ρ1 (some d)) S' = o → toB (EL Sc P rows CD (some (tD c)) x6 x7) S = o := fun o h => by
    show dSeq _ _ _ _ = _
    rw [v_seq, s1]
    exact h
  have lt0 := get_lt h0
  have two : ∀ T, dNot (dBin pIx (dVar 5) (dC (.int 2))) (ρ1 (some .non)) T = some (.bl (!c.2.2), T) := fun T => rfl
  have keep : ∀ T : Sto, (S ++ T)[0]? = some (sk kp) := fun T => by rw [List.getElem?_append_left lt0]; exact h0
  have is0 : ∀ T, dBin (pIs false) (dVar 7) (dC .non) (ρ1 (some .non)) T = some (.bl true, T) := fun T => rfl
  cases R with
  | twin h =>
    refine ⟨some .non, S, go _ ?_, h0⟩
    have tw : c.2.2 = true := by
      rw [hm] at h
      simpa using h
    show dIfS _ _ _ _ _ = _
    rw [v_ifS, is0]
    simp only
    rw [v_ifS, Dn.v_and, two, tw]
    rfl
  | @none a b h hno =>
    refine ⟨some .non, S ++ [cmC a, .lst b], go _ ?_, keep _⟩
    have tw : c.2.2 = false := by
      rw [hm] at h
      simpa using h
    have my := none_may (cells := cells) (shelves := shelves) (nm := c.1) G.led (by omega) n0 kplt kpz hno
    have cm : dPrim (cP (pureOf F_law_may) []) (aCons (dVar 2) (aCons (dVar 4) (aCons (dBin pIx (dVar 5) (dC (.int 0))) aNil))) (ρ1 (some .non)) (S ++ [cmC a, .lst b]) = some (.bl false, S ++ [cmC a, .lst b]) := by
      have a0 : aCons (dVar 2) (aCons (dVar 4) (aCons (dBin pIx (dVar 5) (dC (.int 0))) aNil)) (ρ1 (some .non)) (S ++ [cmC a, .lst b]) = some ([.tup (rows.map PRow.d), .loc 0, .str c.1], S ++ [cmC a, .lst b]) := rfl
      have cl : cpL true (S ++ [cmC a, .lst b]) [.tup (rows.map PRow.d), .loc 0, .str c.1] = some [.tup (rows.map PRow.d), .dik .bor (snK kp) (snV kp), .str c.1] := cpL_cons (cpD_plain rows_plain1) (cpL_cons (cpD_sk (keep _)) (cpL_cons rfl cpL_nil))
      rw [v_prim]
      simp only [a0, cP_eq, cl, my]
    show dIfS _ _ _ _ _ = _
    rw [v_ifS, is0]
    simp only
    rw [v_ifS, Dn.v_and, two, tw]
    simp only [Bool.not_false]
    rw [cm]
    rfl
  | @way a b k l h ht hb hl =>
    have tw : c.2.2 = false := by
      rw [hm] at h
      simpa using h
    obtain ⟨w0, ew, Wy, Fl⟩ := way_props G.led (fun n hn => by
      rcases List.mem_cons.mp hn with z | z
      · rw [z]; exact n0
      · exact kplt n z) hb
    have k2 : k.2 = true := by
      unfold tstS at ht
      rw [Bool.and_eq_true] at ht
      exact ht.1
    have kpt : atB rows (ptR c.1) k.1 = true := by
      unfold tstS at ht
      rw [Bool.and_eq_true] at ht
      exact ht.2
    obtain ⟨j, x, j1, j2, j3, j4⟩ := Fl.yes k2
    have wl : (w0 ++ [k.1]).length = l.length := by rw [← ew, List.length_reverse, List.length_map]
    have wz : (w0 ++ [k.1]).length < 10000 := by omega
    let w := w0 ++ [k.1]
    have eT : (l.map (·.1)).reverse = w := ew
    let T : Sto := S ++ [cmC a, .lst b, .lst (iN w)]
    have hT : T[S.length + 2]? = some (.lst (iN w)) := n_off (k := 2)
    have pc := piece_eq (w := w) Wy (fun n hn => List.mem_cons.mp hn) (by show 0 < (w0 ++ [k.1]).length; rw [List.length_append]; simp) wz
    obtain ⟨sh, hsh, shm⟩ := in_shelves (S := T) (cs := shelves) (c := c) (fun d h => (W.sw d h).1) (wc c hc)
    have cellRow : c ∈ cells → ∀ r ∈ rows, ptR c.1 r = stR c.1 r := fun hcc r hr => by
      have ok := (G.rw r hr).ok
      cases r with
      | lay s a b =>
        have hk : hasK ((shelves.map (·.1)).map fun s => (Sum.inr s : Key)) (.inr s) = true := ok.1
        have ne : ¬ s = c.1 := fun z => by
          unfold hasK at hk
          obtain ⟨q, hq1, hq2⟩ := List.any_eq_true.mp hk
          have hq2 := of_decide_eq_true hq2
          subst hq2
          obtain ⟨s', hs', e'⟩ := List.mem_map.mp hq1
          cases e'
          obtain ⟨_, _, dd⟩ := List.nodup_append.mp W.nd
          exact dd c.1 (List.mem_map.mpr ⟨c, hcc, rfl⟩) s hs' z.symm
        unfold ptR stR tch
        simp [ne]
      | store s a =>
        unfold ptR stR tch
        by_cases z : s = c.1 <;> simp [z]
      | load y s =>
        unfold ptR stR tch
        by_cases z : s = c.1 <;> simp [z]
      | take y s a =>
        unfold ptR stR tch
        by_cases z : s = c.1 <;> simp [z]
      | _ => rfl
    have sp := spoils_eq (sh := sh) (nm := c.1) (w := w) Wy rfl wz kpt j1 j2 j3 j4 ((List.mem_append.mp hc).elim (fun z => .inr (cellRow z)) fun z => .inl (shm z))
    let ρ2 := ρ1 (some (.loc (S.length + 2)))
    have v0 : dBin (pIs false) (dVar 7) (dC .non) ρ2 T = some (.bl false, T) := rfl
    have v2 : dBin pIx (dVar 5) (dC (.int 2)) ρ2 T = some (.bl c.2.2, T) := rfl
    have q1 : dPrim (cP (pureOf F_law_is_piece) []) (aCons (dVar 2) (aCons (dVar 4) (aCons (dVar 7) aNil))) ρ2 T = some (.bl true, T) := by
      have a0 : aCons (dVar 2) (aCons (dVar 4) (aCons (dVar 7) aNil)) ρ2 T = some ([.tup (rows.map PRow.d), .loc 0, .loc (S.length + 2)], T) := rfl
      have cl : cpL true T [.tup (rows.map PRow.d), .loc 0, .loc (S.length + 2)] = some [.tup (rows.map PRow.d), .dik .bor (snK kp) (snV kp), .lst .bor (iN w)] := cpL_cons (cpD_plain rows_plain1) (cpL_cons (cpD_sk (keep _)) (cpL_cons (cpD_loc hT (iN_plain _)) cpL_nil))
      rw [v_prim]
      simp only [a0, cP_eq, cl, pc]
    have q2 : dPrim (cP (pureOf F_law_spoils) []) (aCons (dVar 2) (aCons (dVar 7) (aCons (dBin pIx (dVar 5) (dC (.int 0))) (aCons (dBin (pInT false) (dVar 5) (dBin pIx (dVar 1) (dC (.int 1)))) aNil)))) ρ2 T = some (.bl true, T) := by
      have u1 : dVar 2 ρ2 T = some (.tup (rows.map PRow.d), T) := rfl
      have u2 : dVar 7 ρ2 T = some (.loc (S.length + 2), T) := rfl
      have u3 : dBin pIx (dVar 5) (dC (.int 0)) ρ2 T = some (.str c.1, T) := rfl
      have u4 : dBin (pInT false) (dVar 5) (dBin pIx (dVar 1) (dC (.int 1))) ρ2 T = some (.bl sh, T) := hsh
      have cl : cpL true T [.tup (rows.map PRow.d), .loc (S.length + 2), .str c.1, .bl sh] = some [.tup (rows.map PRow.d), .lst .bor (iN w), .str c.1, .bl sh] := cpL_cons (cpD_plain rows_plain1) (cpL_cons (cpD_loc hT (iN_plain _)) (cpL_cons rfl (cpL_cons rfl cpL_nil)))
      rw [v_prim]
      simp only [v_cons, v_nil, u1, u2, u3, u4, cP_eq, cl, sp]
    have ap := app_loc (y := .int 0) hT (by rw [iN_len]; show (w0 ++ [k.1]).length < _; omega)
    have q3 : dExpr (dMt pAppend (dVar 7) (aCons (dC (.int 0)) aNil)) ρ2 T = some (.nx ρ2 (T.set (S.length + 2) (.lst (iN w ++ [.int 0])))) := by
      have u2 : dVar 7 ρ2 T = some (.loc (S.length + 2), T) := rfl
      rw [v_expr, v_mt, u2]
      simp only [asL_loc hT, v_cons, v_nil, v_c, ap]
    refine ⟨some (.loc (S.length + 2)), T.set (S.length + 2) (.lst (iN w ++ [.int 0])), ?_, by rw [List.getElem?_set_ne (by omega)]; exact keep _⟩
    have R2 : ifB ρ2 T = some (.nx ρ2 (T.set (S.length + 2) (.lst (iN w ++ [.int 0])))) := by
      show dIfS _ _ _ _ _ = _
      rw [v_ifS, v0]
      simp only
      rw [v_ifS, Dn.v_or, v2, tw]
      simp only
      rw [Dn.v_not, q1]
      simp only [Bool.not_true]
      rw [v_ifS, Dn.v_not, q2]
      simp only [Bool.not_true]
      exact q3
    have s1' := s1
    rw [eT] at s1'
    show dSeq _ _ _ _ = _
    rw [v_seq, s1']
    exact R2
end
end Lk34

namespace Lk34
open PySem PySem.Spec PyProof.Rows L2 Dn
abbrev kpB : DS := dSub (dC (.bl true)) (dVar 4) (dVar 6)
theorem keeps_loop {Sc P CD : DV} {rows : List PRow} {x7 : Option DV} : ∀ (ks : List (Nat × DV)) (sn : List Nat) (x5 x6 : Option DV), (sn ++ ks.map (·.1)).Nodup → sn.length + ks.length < 50000 →
    ∃ y5 y6, forL (gTupD 2 (gsCons (gSet 6) (gsCons (gSet 5) gsNil))) kpB (ks.map kpD) (EL Sc P rows CD x5 x6 x7) [sk sn] = some (.nx (EL Sc P rows CD y5 y6 x7) [sk (sn ++ ks.map (·.1))])
  | [], sn, x5, x6, _, _ => ⟨x5, x6, by rw [List.map_nil, List.map_nil, List.append_nil] <;> rfl⟩
  | k :: ks, sn, x5, x6, hn, hz => by
    rw [List.map_cons] at hn
    rw [List.length_cons] at hz
    have hk : k.1 ∉ sn := fun h => (List.nodup_append.mp hn).2.2 k.1 h k.1 List.mem_cons_self rfl
    have e : sn ++ k.1 :: ks.map (·.1) = (sn ++ [k.1]) ++ ks.map (·.1) := by simp
    obtain ⟨y5, y6, ih⟩ := keeps_loop (Sc := Sc) (P := P) (CD := CD) (rows := rows) (x7 := x7) ks (sn ++ [k.1]) (some k.2) (some (.int k.1)) (by rw [← e]; exact hn) (by rw [List.length_append, List.length_singleton]; omega)
    have st := set_sk (S := [sk sn]) (n := 0) (sn := sn) (x := k.1) rfl hk (by omega)
    have hb : kpB (EL Sc P rows CD (some k.2) (some (.int k.1)) x7) [sk sn] = some (.nx (EL Sc P rows CD (some k.2) (some (.int k.1)) x7) [sk (sn ++ [k.1])]) := sub_at rfl rfl rfl st
    have hg : gTupD 2 (gsCons (gSet 6) (gsCons (gSet 5) gsNil)) (kpD k) (EL Sc P rows CD x5 x6 x7) [sk sn] = some (EL Sc P rows CD (some k.2) (some (.int k.1)) x7, [sk sn]) := rfl
    refine ⟨y5, y6, ?_⟩
    rw [List.map_cons, List.map_cons, e]
    unfold forL
    simp only [hg]
    rw [hb]
    exact ih
theorem rep2 (xs : List DV) : repD xs 2 = xs ++ xs := by
  unfold repD
  simp [List.replicate_succ]
theorem law_true (ns : List Int) (hl : ns.length ≤ 63) : ∃ S', F_law [.lst .ext (ns.map DV.int)] [] = some (.bl true, S') := by
  let Sc : DV := .lst .ext (ns.map DV.int)
  obtain ⟨bl, cells, shelves, rest, W, hw⟩ := world_ok ns
  obtain ⟨rows, G, hp⟩ := program_ok ns hl 57 (by omega) W hw
  obtain ⟨ps, pw, pz, hpool⟩ := pool_ok ns W hw
  have nz := G.nz
  obtain ⟨bg, ks, C, hcut⟩ := cutting_ok ns (cells := cells) (shelves := shelves) (rows := rows) (by omega) ps pz
  let P := PD cells shelves rows
  let CD := cdD (.tup (bg.map .str)) (ksD ks)
  have c8 := W.c8
  have s4 := W.s4
  have pSc : plain Sc = true := by simp [Sc]
  have cp : ∀ S : Sto, cP (pureOf F_law_program) [] [Sc, .int 57] S = some (P, S) := fun S => by
    have p : plainL [Sc, .int 57] = true := by simp [pSc]
    have hp' : pureOf F_law_program [Sc, .int 57] = some P := hp
    simp only [cP_eq, cpL_plain p, hp']
  have cq : ∀ S : Sto, cP (pureOf F_law_pool) [] [Sc] S = some (.lst .own (ps.map .str), S) := fun S => by
    have p : plainL [Sc] = true := by simp [pSc]
    have h' : pureOf F_law_pool [Sc] = some (.lst .own (ps.map .str)) := hpool
    simp only [cP_eq, cpL_plain p, h']
  have cc : ∀ S : Sto, cP (pureOf F_law_cutting) [] [Sc, P, .lst .own (ps.map .str)] S = some (CD, S) := fun S => by
    have p : plainL [Sc, P, .lst .own (ps.map .str)] = true := by
      have h1 := plainL_strs (ns := ps)
      have h2 : plain P = true := pd_plain
      simp [pSc, h1, h2]
    have h' : pureOf F_law_cutting [Sc, P, .lst .own (ps.map .str)] = some CD := hcut
    simp only [cP_eq, cpL_plain p, h']
  let kp := ks.map (·.1)
  have s1 : dSet 1 (dPrim (cP (pureOf F_law_program) []) (aCons (dVar 0) (aCons (dC (.int 57)) aNil))) [some Sc, none, none, none, none, none, none, none] [] = some (.nx [some Sc, some P, none, none, none, none, none, none] []) := by
    have a0 : aCons (dVar 0) (aCons (dC (.int 57)) aNil) [some Sc, none, none, none, none, none, none, none] ([] : Sto) = some ([Sc, .int 57], []) := rfl
    rw [v_set, v_prim]
    simp only [a0, cp]
    rfl
  have s2 : dSet 2 (dBin pIx (dVar 1) (dC (.int 2))) [some Sc, some P, none, none, none, none, none, none] [] = some (.nx [some Sc, some P, some (.tup (rows.map PRow.d)), none, none, none, none, none] []) := rfl
  have cutE : ∀ (ρ : List (Option DV)) (S : Sto), dVar 0 ρ S = some (Sc, S) → dVar 1 ρ S = some (P, S) → dPrim (cP (pureOf F_law_cutting) []) (aCons (dVar 0) (aCons (dVar 1) (aCons (dPrim (cP (pureOf F_law_pool) []) (aCons (dVar 0) aNil)) aNil))) ρ S = some (CD, S) := fun ρ S h0 h1 => by
    have e1 : dPrim (cP (pureOf F_law_pool) []) (aCons (dVar 0) aNil) ρ S = some (.lst .own (ps.map .str), S) := by
      rw [v_prim]
      simp only [v_cons, v_nil, h0, cq]
    rw [v_prim]
    simp only [v_cons, v_nil, h0, h1, e1, cc]
  have s3 : dSet 3 (dPrim (cP (pureOf F_law_cutting) []) (aCons (dVar 0) (aCons (dVar 1) (aCons (dPrim (cP (pureOf F_law_pool) []) (aCons (dVar 0) aNil)) aNil)))) [some Sc, some P, some (.tup (rows.map PRow.d)), none, none, none, none, none] [] = some (.nx [some Sc, some P, some (.tup (rows.map PRow.d)), some CD, none, none, none, none] []) := by
    rw [v_set, cutE _ _ rfl rfl]
    rfl
  have s4 : dSet 4 (fun _ S => some (.loc S.length, S ++ [.dik [] []])) [some Sc, some P, some (.tup (rows.map PRow.d)), some CD, none, none, none, none] [] = some (.nx (EL Sc P rows CD none none none) [sk []]) := rfl
  have i5 : iSeq (dBin pIx (dVar 3) (dC (.int 1))) (EL Sc P rows CD none none none) [sk []] = some ((ksD ks).map kpD, [sk []]) := rfl
  have kn : (ks.map (·.1)).Nodup := C.up.imp fun h => by omega
  have kl : ks.length < 900 := by
    have := nodup_len kn (m := List.range rows.length) fun x hx => by
      obtain ⟨k, hk, rfl⟩ := List.mem_map.mp hx
      exact List.mem_range.mpr (C.lt k hk)
    rw [List.length_map, List.length_range] at this
    omega
  have ekp : (ksD ks).map (·.1) = kp := by
    rw [List.map_map]
    rfl
  obtain ⟨y5, y6, el5⟩ := keeps_loop (Sc := Sc) (P := P) (CD := CD) (rows := rows) (x7 := none) (ksD ks) [] none none (by rw [List.nil_append, ekp]; exact kn) (by rw [List.length_map]; simp; omega)
  rw [List.nil_append, ekp] at el5
  let things := cells ++ shelves
  have i6 : ∀ S : Sto, iSeq (dBin pMulT (dBin pAdd (dBin pIx (dVar 1) (dC (.int 0))) (dBin pIx (dVar 1) (dC (.int 1)))) (dC (.int 2))) (EL Sc P rows CD y5 y6 none) S = some (things.map tD ++ things.map tD, S) := fun S => by
    have e0 : dBin pIx (dVar 1) (dC (.int 0)) (EL Sc P rows CD y5 y6 none) S = some (.tup (cells.map tD), S) := rfl
    have e1 : dBin pIx (dVar 1) (dC (.int 1)) (EL Sc P rows CD y5 y6 none) S = some (.tup (shelves.map tD), S) := rfl
    have e2 : dBin pAdd (dBin pIx (dVar 1) (dC (.int 0))) (dBin pIx (dVar 1) (dC (.int 1))) (EL Sc P rows CD y5 y6 none) S = some (.tup (things.map tD), S) := by
      rw [v_bin, e0]
      simp only [e1]
      rw [v_addT, if_pos (by simp only [List.length_map, size_eq]; omega), ← List.map_append]
    have e3 : pMulT (.tup (things.map tD)) (.int 2) S = some (.tup (things.map tD ++ things.map tD), S) := by
      unfold pMulT
      simp only
      rw [if_pos ⟨by decide, by decide, by rw [List.length_map]; show (cells ++ shelves).length ≤ 1000; rw [List.length_append]; omega⟩, show (2 : Int).toNat = 2 from rfl, rep2]
    rw [iSeq_eq, v_bin, e2]
    simp only [v_c, e3]
  obtain ⟨ρ', S', el6, x5, x6, x7, rfl, h0⟩ := forL_inv (g := gSet 5) (body := toB) (I := fun i ρ S => ∃ x5 x6 x7, ρ = EL Sc P rows CD x5 x6 x7 ∧ S[0]? = some (sk kp)) (ds := things.map tD ++ things.map tD) (k := 0) (ρ := EL Sc P rows CD y5 y6 none) (S := [sk kp]) ⟨y5, y6, none, rfl, rfl⟩ fun i d ρ S hd hi => by
    obtain ⟨x5, x6, x7, rfl, h0⟩ := hi
    have hm : ∃ c ∈ cells ++ shelves, d = tD c := by
      rcases List.mem_append.mp (List.mem_of_getElem? hd) with h | h <;>
      · obtain ⟨c, hc, rfl⟩ := List.mem_map.mp h
        exact ⟨c, hc, rfl⟩
    obtain ⟨c, hc, rfl⟩ := hm
    obtain ⟨y7, S', e, k⟩ := told_ok (Sc := Sc) G C (kp := kp) rfl hc h0 (x6 := x6) (x7 := x7)
    exact ⟨_, _, _, S', rfl, .inl e, _, _, _, rfl, k⟩
  have fin : dRet (dAnd (dBin (pEq false) (dVar 1) (dPrim (cP (pureOf F_law_program) []) (aCons (dVar 0) (aCons (dC (.int 57)) aNil)))) (dBin (pEq false) (dVar 3) (dPrim (cP (pureOf F_law_cutting) []) (aCons (dVar 0) (aCons (dVar 1) (aCons (dPrim (cP (pureOf F_law_pool) []) (aCons (dVar 0) aNil)) aNil)))))) (EL Sc P rows CD x5 x6 x7) S' = some (.rt (.bl true) S') := by
    have a0 : aCons (dVar 0) (aCons (dC (.int 57)) aNil) (EL Sc P rows CD x5 x6 x7) S' = some ([Sc, .int 57], S') := rfl
    have e1 : dPrim (cP (pureOf F_law_program) []) (aCons (dVar 0) (aCons (dC (.int 57)) aNil)) (EL Sc P rows CD x5 x6 x7) S' = some (P, S') := by
      rw [v_prim]
      simp only [a0, cp]
    have v1 : dVar 1 (EL Sc P rows CD x5 x6 x7) S' = some (P, S') := rfl
    have v3 : dVar 3 (EL Sc P rows CD x5 x6 x7) S' = some (CD, S') := rfl
    have q1 : pEq false P P S' = some (.bl true, S') := prog_same G
    have q2 : pEq false CD CD S' = some (.bl true, S') := code_same C pw
    rw [v_ret, Dn.v_and, v_bin, v1]
    simp only [e1, q1]
    rw [v_bin, v3]
    simp only [cutE _ _ (show dVar 0 (EL Sc P rows CD x5 x6 x7) S' = some (Sc, S') from rfl) v1, q2]
  refine ⟨S', ?_⟩
  unfold F_law b_law runF
  show (match (dSeq _ _ [some Sc, none, none, none, none, none, none, none] [] : Option Out) with | some (.rt d S') => some (d, S') | some (.nx _ S') => some (.non, S') | _ => none) = _
  rw [v_seq, s1]
  simp only
  rw [v_seq, s2]
  simp only
  rw [v_seq, s3]
  simp only
  rw [v_seq, s4]
  simp only
  rw [v_seq, v_for, i5]
  simp only
  rw [show forL (gTupD 2 (gsCons (gSet 6) (gsCons (gSet 5) gsNil))) kpB ((ksD ks).map kpD) _ _ = _ from el5]
  simp only
  rw [v_seq, v_for, i6]
  simp only
  rw [show forL (gSet 5) toB (things.map tD ++ things.map tD) _ _ = _ from el6]
  simp only
  rw [fin]
end Lk34

namespace Lk34
open PySem PySem.Spec PyProof.Rows L2 Dn
/-! ### the head -/
abbrev R : PySem.W.OpenRow := PySem.W.OpenLaw.row PySem.Challenge.rw_dimhouse_k34_whole_spoilt_by_a_way
abbrev hk : PySem.W.Hook := hookY 4 fa fn ts ex
def ob (s : PySem.W.SharedT) : AlY := obsY 4 fa fn ts ex (HandSHeadRun.getT s)
theorem ob_eq (s : PySem.W.SharedT) : ob s = hk.obs s.abs := obsY_eq (HandSHeadRun.getT_eq s)
def lo0 : List Str := ["ways_of", "ways", "place_rows", "may_spoil", "touch", "behind", "led_by", "spoilt", "_law_cell_at", "_law_rich", "_law_big", "_law_digits", "_law_names", "_law_world", "_law_row", "_law_program", "_law_some", "_law_cutting", "_law_pool", "_law_exits", "_law_whole", "_law_is_piece", "_law_spoils", "_law_reached", "_law_may", "TOUCHES"]
def loose : List Str := lo0
theorem run (w : World) : HandSHeadRun.RunEq R (PySem.W.view R.prog [29]) hk ob 3000 loose w := PySem.W.byRow2 "special-get-raises" (P := fun w => HandSHeadRun.RunEq R (PySem.W.view R.prog [29]) hk ob 3000 loose w) (fun w => by
  intro os
  kernel_rfl) (fun w => by
  intro os
  kernel_rfl) w
theorem walk_law {P : Program} {w : World} {K : PySem.W.Frag} {h : Heap} {mg : Str → Option Value} {f : Addr} (X : K.In h) (G : h.Ns mainGlobals mg) (hfa : mg ("law" : Str) = some (.ref f)) (c : He.SaysT fa fn ts w K) (e : ex K = true) :
    ∃ fd : FuncData, (∀ (s : Shared) (v : Value), BindsTo s fd ⟨[v], []⟩ [("_law_script", v)]) ∧ ∀ base : Heap, K.In base → base.Ns mainGlobals mg → FnOk P w K mg base CX0 5 f fd ["_law_script"] (spS K 1 F_law) := by
  have Y : Fx w K mg := ⟨⟨⟨h, X, G⟩, c.d, e⟩, c⟩
  obtain ⟨fd, FD⟩ := Y.c.def_ 25 (d := d_law) rfl
  have e0 := hfa.symm.trans (Y.glo 25)
  cases e0
  have b := FunD.bindsA (ps := ["_law_script"]) FD fun _ _ _ _ _ _ us hl => match us, hl with | [_], _ => rfl
  exact ⟨fd, fun s v => b s [v] rfl, fun base _ _ => ok_law_fn FD Y⟩
end Lk34
open PySem PySem.W PySem.Calls PyProof.Rows
set_option maxHeartbeats 0 in
theorem PySem.Challenge.cw_dimhouse_k34_whole_spoilt_by_a_way_holds : PySem.Challenge.rw_dimhouse_k34_whole_spoilt_by_a_way.Holds := by
  w_on; o_law
  refine HandSHeadRun.head_any (r := OpenLaw.row PySem.Challenge.rw_dimhouse_k34_whole_spoilt_by_a_way) (q := view (OpenLaw.row PySem.Challenge.rw_dimhouse_k34_whole_spoilt_by_a_way).prog [29]) (H := Lk34.hk) (ob := Lk34.ob) (M := 3000) (loose := Lk34.loose) (d := HandSHeadRun.topDef (OpenLaw.row PySem.Challenge.rw_dimhouse_k34_whole_spoilt_by_a_way).prog 29) (kwd := []) Lk34.ob_eq
    (by kernel_rfl) (fun s => by kernel_rfl) Lk34.run (by kernel_rfl) (by kernel_rfl) (by kernel_rfl) (by rfl) (by first | assumption | decide +kernel) (by decide +kernel) ⟨rfl, rfl, rfl, rfl, rfl, by decide +kernel⟩ ?hw ?hc
  case hw => w_witness2
  case hc =>
    refine L2.walk_ofE (l := PySem.Challenge.rw_dimhouse_k34_whole_spoilt_by_a_way) (n := 63) (k := 5) (x := "_law_script") (CX := L2.CX0) rfl (by decide) (by kernel_rfl) ⟨rfl, by decide, by decide⟩ ?F (fun _ _ _ _ z => z)
    intro w mg fa h Y G hmg0
    obtain ⟨K, KX, c, e⟩ := Y
    have hmg : mg ("law" : PySem.Str) = some (.ref fa) := by
      have e : (HandSHeadRun.topDef (OpenLaw.row PySem.Challenge.rw_dimhouse_k34_whole_spoilt_by_a_way).prog 29).name = ("law" : PySem.Str) := by kernel_rfl
      rw [← e]
      exact hmg0
    obtain ⟨fd, hb, hF⟩ := Lk34.walk_law (P := (PySem.Challenge.rw_dimhouse_k34_whole_spoilt_by_a_way).prog) (w := w) KX G hmg c e
    exact ⟨K, fd, Dn.spS K 1 Lk34.F_law, KX, hb, fun H a ns hl _ hS => Dn.spS_law hS (Lk34.law_true ns hl), hF⟩
