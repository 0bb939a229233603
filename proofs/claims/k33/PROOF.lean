import PyProof.Rows.All
import Wide.All
import OpenK.AllK
import Wide.FinOn
import HandS.ForMost
import HandS.HeadHook1
import KE.KDictCopyH
import HandS.Defaults
import HandS.TupAny
import HandS.IsInst
import HandS.Wide
import HandS.Style
import HandS.TupLen
import HandS.RevRange
import HandS.Deep
import HandS.RaiseMore
import HandS.Conv
import HandS.More
import HandS.Walk
import HandS.Rev
import HandS.Zip
import HandS.NoneIn
import HandS.SortInts
import KE.KStateDown
import HandS.HeadHook2
import HandS.Head0
import HandS.Head1
import HandS.Head2
import HandS.HeadEnd
import HandS.Words
import KE.GoesMore
import KE.GoesEnum
import HandS.Iter
import HandS.Text
import KE.OsArith
import HandS.TryOnly
import HandS.List
import HandS.Replace
import HandS.Set
import KE.KDictDisplayH
import HandS.Head3
import HandS.HeadHook3
import HandS.SetFor
import HandS.SetKeys
import PyProof.P3In
import PyProof.Rows.InDataRows
import PyProof.ListMulRoad
import PyProof.FactsAll.tuple_2
import HandS.TupMul
import HandS.Dict
import HandS.TupSets
import PyProof.StrBlock2
import PyProof.Rows.StrMul
import HandS.RevTup
import PyProof.ListRange
import PySem.Challenge.RW_dimhouse_k33_spoilt_in_straight_rows
set_option Elab.async false
set_option linter.all false
set_option maxRecDepth 100000
set_option maxHeartbeats 0
/-! A denotation layer over the hand layer: data values, a store of cells, and one rule for each construct. -/
namespace Dn
open PySem L2

/-! ### values -/
inductive LK where
  | own | bor | ext
  deriving DecidableEq
inductive DV where
  | non | bl (b : Bool) | int (i : Int) | str (s : Str)
  | tup (xs : List DV)
  | tupx (xs : List DV)
  | lst (k : LK) (xs : List DV)
  | dik (k : LK) (ks : List Key) (vs : List DV)
  | dit (k : LK) (ks : List (List Key)) (vs : List DV)
  | loc (n : Nat)
/-- a cell of the store -/
inductive Cell where
  | lst (xs : List DV)
  | dik (ks : List Key) (vs : List DV)
  | dit (ks : List (List Key)) (vs : List DV)
  | ins (C : Str) (fs : List (Str × DV))
  | frz (d : DV)
  | lok (ks : List Key) (vs : List DV)
  | dlf (ks : List (Int × Bool)) (vs : List DV)
  | gone
abbrev Sto := List Cell
def Cell.live : Cell → Bool
  | .frz _ => false
  | .lok _ _ => false
  | .gone => false
  | _ => true
/-- where data lies: frozen objects G, borrowed ones B, the cells' addresses -/
structure Fm where
  K : PySem.W.Frag
  G : Hp
  B : Hp
  /-- protected: it stays, but no data leans on it -/
  P : Hp
  lm : List Addr
def Fm.free (F : Fm) (a : Addr) : Prop := F.B a = none ∧ F.P a = none

mutual
def Rel (F : Fm) : DV → V → Prop
  | .non, v => v = .non
  | .bl b, v => v = .bl b
  | .int i, v => v = .int i
  | .str s, v => v = .str s
  | .tup ds, v => ∃ a xs, v = .ref a ∧ F.G a = some (.tup xs) ∧ RelL F ds xs
  | .tupx ds, v => ∃ a xs, v = .ref a ∧ SqT F.K F.G a xs ∧ RelL F ds xs
  | .lst .own ds, v => ∃ a xs, v = .ref a ∧ F.G a = some (.lst xs) ∧ RelL F ds xs
  | .lst .bor ds, v => ∃ a xs, v = .ref a ∧ (F.B a = some (.lst xs) ∨ F.G a = some (.lst xs)) ∧ RelL F ds xs
  | .lst .ext ds, v => ∃ a xs, v = .ref a ∧ SqL F.K F.G a xs ∧ RelL F ds xs
  | .dik k ks ds, v => ∃ a xs, v = .ref a ∧ ks.length = ds.length ∧ (F.G a = some (.dK (ks.zip xs)) ∨ (k ≠ .own ∧ F.B a = some (.dK (ks.zip xs)))) ∧ RelL F ds xs
  | .dit k ks ds, v => ∃ a xs, v = .ref a ∧ ks.length = ds.length ∧ (F.G a = some (.dT (ks.zip xs)) ∨ (k ≠ .own ∧ F.B a = some (.dT (ks.zip xs)))) ∧ RelL F ds xs
  | .loc n, v => ∃ a, F.lm[n]? = some a ∧ v = .ref a
def RelL (F : Fm) : List DV → List V → Prop
  | [], xs => xs = []
  | d :: ds, xs => ∃ x r, xs = x :: r ∧ Rel F d x ∧ RelL F ds r
end

structure Le (F F' : Fm) : Prop where
  k : F'.K = F.K
  b : F'.B = F.B
  p : F'.P = F.P
  g : Same F.G F'.G
  n : ∀ a o, F'.G a = some o → F.G a = some o ∨ F.free a
  m : F.lm <+: F'.lm
theorem Le.refl (F : Fm) : Le F F := ⟨rfl, rfl, rfl, Same.refl _, fun _ _ h => .inl h, List.prefix_refl _⟩
theorem Le.trans {F F1 F2 : Fm} (a : Le F F1) (b : Le F1 F2) : Le F F2 :=
  ⟨b.k.trans a.k, b.b.trans a.b, b.p.trans a.p, a.g.trans b.g, fun x o h => (b.n x o h).elim (fun h => a.n x o h) fun h => .inr ⟨by rw [← a.b]; exact h.1, by rw [← a.p]; exact h.2⟩, a.m.trans b.m⟩
theorem prefix_get {α : Type} {l l' : List α} (h : l <+: l') {n : Nat} {a : α} (e : l[n]? = some a) : l'[n]? = some a := by
  obtain ⟨t, rfl⟩ := h
  rw [List.getElem?_append_left (List.getElem?_eq_some_iff.mp e).1]
  exact e
theorem sqL_same {K : PySem.W.Frag} {H H' : Hp} {a : Addr} {xs : List V} (e : Same H H') (h : SqL K H a xs) : SqL K H' a xs := e.seq h
theorem sqT_same {K : PySem.W.Frag} {H H' : Hp} {a : Addr} {xs : List V} (e : Same H H') (h : SqT K H a xs) : SqT K H' a xs := by
  rcases h with h | h
  · rcases h with h | ⟨o, h⟩
    · exact .inl (.inl (e _ _ h))
    · exact .inl (.inr ⟨o, e _ _ h⟩)
  · exact .inr h

/-- monotone in all but what is put in and taken out -/
structure Wk (F F' : Fm) : Prop where
  k : F'.K = F.K
  b : Same F.B F'.B
  g : Same F.G F'.G
  m : F.lm <+: F'.lm
theorem Le.wk {F F' : Fm} (h : Le F F') : Wk F F' := ⟨h.k, by rw [h.b]; exact Same.refl _, h.g, h.m⟩
mutual
theorem Rel.wk {F F' : Fm} (w : Wk F F') : ∀ (d : DV) (v : V), Rel F d v → Rel F' d v
  | .non, v, h => h
  | .bl b, v, h => h
  | .int i, v, h => h
  | .str s, v, h => h
  | .tup ds, v, h => by
    obtain ⟨a, xs, e, hs, hl⟩ := h
    exact ⟨a, xs, e, w.g _ _ hs, RelL.wk w ds xs hl⟩
  | .tupx ds, v, h => by
    obtain ⟨a, xs, e, hs, hl⟩ := h
    exact ⟨a, xs, e, by rw [w.k]; exact sqT_same w.g hs, RelL.wk w ds xs hl⟩
  | .lst .own ds, v, h => by
    obtain ⟨a, xs, e, hs, hl⟩ := h
    exact ⟨a, xs, e, w.g _ _ hs, RelL.wk w ds xs hl⟩
  | .lst .bor ds, v, h => by
    obtain ⟨a, xs, e, hs, hl⟩ := h
    exact ⟨a, xs, e, hs.elim (fun h => .inl (w.b _ _ h)) fun h => .inr (w.g _ _ h), RelL.wk w ds xs hl⟩
  | .lst .ext ds, v, h => by
    obtain ⟨a, xs, e, hs, hl⟩ := h
    exact ⟨a, xs, e, by rw [w.k]; exact sqL_same w.g hs, RelL.wk w ds xs hl⟩
  | .dik k ks ds, v, h => by
    obtain ⟨a, xs, e, hn, hs, hl⟩ := h
    exact ⟨a, xs, e, hn, hs.elim (fun h => .inl (w.g _ _ h)) fun h => .inr ⟨h.1, w.b _ _ h.2⟩, RelL.wk w ds xs hl⟩
  | .dit k ks ds, v, h => by
    obtain ⟨a, xs, e, hn, hs, hl⟩ := h
    exact ⟨a, xs, e, hn, hs.elim (fun h => .inl (w.g _ _ h)) fun h => .inr ⟨h.1, w.b _ _ h.2⟩, RelL.wk w ds xs hl⟩
  | .loc n, v, h => by
    obtain ⟨a, e, hv⟩ := h
    exact ⟨a, prefix_get w.m e, hv⟩
theorem RelL.wk {F F' : Fm} (w : Wk F F') : ∀ (ds : List DV) (xs : List V), RelL F ds xs → RelL F' ds xs
  | [], xs, h => h
  | d :: ds, xs, h => by
    obtain ⟨x, r, e, h1, h2⟩ := h
    exact ⟨x, r, e, Rel.wk w d x h1, RelL.wk w ds r h2⟩
end
theorem Rel.le {F F' : Fm} (w : Le F F') {d : DV} {v : V} (h : Rel F d v) : Rel F' d v := Rel.wk w.wk d v h
theorem RelL.le {F F' : Fm} (w : Le F F') {ds : List DV} {vs : List V} (h : RelL F ds vs) : RelL F' ds vs := RelL.wk w.wk ds vs h
theorem RelL.length {F : Fm} : ∀ {ds : List DV} {vs : List V}, RelL F ds vs → ds.length = vs.length
  | [], vs, h => by
    have e : vs = [] := h
    rw [e] <;> rfl
  | d :: ds, vs, h => by
    obtain ⟨x, r, rfl, _, h2⟩ := h
    rw [List.length_cons, List.length_cons, h2.length]
theorem RelL.nil {F : Fm} {vs : List V} (h : RelL F [] vs) : vs = [] := h
theorem RelL.cons {F : Fm} {d : DV} {v : V} {ds : List DV} {vs : List V} (h1 : Rel F d v) (h2 : RelL F ds vs) : RelL F (d :: ds) (v :: vs) := ⟨v, vs, rfl, h1, h2⟩
theorem RelL.get {F : Fm} : ∀ {ds : List DV} {vs : List V} {i : Nat} {d : DV}, RelL F ds vs → ds[i]? = some d → ∃ v, vs[i]? = some v ∧ Rel F d v
  | [], vs, i, d, h, e => by simp at e
  | d0 :: ds, vs, 0, d, h, e => by
    obtain ⟨x, r, rfl, h1, h2⟩ := h
    have e' : d0 = d := by simpa using e
    subst e'
    exact ⟨x, rfl, h1⟩
  | d0 :: ds, vs, i + 1, d, h, e => by
    obtain ⟨x, r, rfl, h1, h2⟩ := h
    obtain ⟨v, e1, e2⟩ := RelL.get (i := i) h2 (by simpa using e)
    exact ⟨v, by simpa using e1, e2⟩
theorem RelL.append {F : Fm} : ∀ {ds es : List DV} {vs us : List V}, RelL F ds vs → RelL F es us → RelL F (ds ++ es) (vs ++ us)
  | [], es, vs, us, h, k => by
    have e : vs = [] := h
    rw [e]
    exact k
  | d :: ds, es, vs, us, h, k => by
    obtain ⟨x, r, rfl, h1, h2⟩ := h
    exact ⟨x, r ++ us, rfl, h1, RelL.append h2 k⟩
theorem RelL.set {F : Fm} {d : DV} {v : V} (r : Rel F d v) : ∀ {ds : List DV} {vs : List V} (i : Nat), RelL F ds vs → RelL F (ds.set i d) (vs.set i v)
  | [], vs, i, h => by
    have e : vs = [] := h
    rw [e]
    exact rfl
  | d0 :: ds, vs, 0, h => by
    obtain ⟨x, r', rfl, h1, h2⟩ := h
    exact ⟨v, r', rfl, r, h2⟩
  | d0 :: ds, vs, i + 1, h => by
    obtain ⟨x, r', rfl, h1, h2⟩ := h
    exact ⟨x, r'.set i v, rfl, h1, RelL.set r i h2⟩
theorem RelL.take {F : Fm} : ∀ {ds : List DV} {vs : List V} (n : Nat), RelL F ds vs → RelL F (ds.take n) (vs.take n)
  | [], vs, n, h => by
    have e : vs = [] := h
    rw [e, List.take_nil, List.take_nil]
    exact rfl
  | d0 :: ds, vs, 0, h => by
    rw [List.take_zero, List.take_zero]
    exact rfl
  | d0 :: ds, vs, n + 1, h => by
    obtain ⟨x, r', rfl, h1, h2⟩ := h
    exact ⟨x, r'.take n, rfl, h1, RelL.take n h2⟩
theorem RelL.drop {F : Fm} : ∀ {ds : List DV} {vs : List V} (n : Nat), RelL F ds vs → RelL F (ds.drop n) (vs.drop n)
  | [], vs, n, h => by
    have e : vs = [] := h
    rw [e, List.drop_nil, List.drop_nil]
    exact rfl
  | d0 :: ds, vs, 0, h => h
  | d0 :: ds, vs, n + 1, h => by
    obtain ⟨x, r', rfl, h1, h2⟩ := h
    exact RelL.drop n h2
theorem RelL.rev {F : Fm} : ∀ {ds : List DV} {vs : List V}, RelL F ds vs → RelL F ds.reverse vs.reverse
  | [], vs, h => by
    have e : vs = [] := h
    rw [e]
    exact rfl
  | d0 :: ds, vs, h => by
    obtain ⟨x, r', rfl, h1, h2⟩ := h
    rw [List.reverse_cons, List.reverse_cons]
    exact RelL.append (RelL.rev h2) ⟨x, [], rfl, h1, rfl⟩
theorem RelL.eraseIdx {F : Fm} : ∀ {ds : List DV} {vs : List V} (n : Nat), RelL F ds vs → RelL F (ds.eraseIdx n) (vs.eraseIdx n)
  | [], vs, n, h => by
    have e : vs = [] := h
    rw [e, List.eraseIdx_nil, List.eraseIdx_nil]
    exact rfl
  | d0 :: ds, vs, 0, h => by
    obtain ⟨x, r', rfl, h1, h2⟩ := h
    exact h2
  | d0 :: ds, vs, n + 1, h => by
    obtain ⟨x, r', rfl, h1, h2⟩ := h
    exact ⟨x, r'.eraseIdx n, rfl, h1, RelL.eraseIdx n h2⟩

/-! ### worlds -/
/-- a key (number, truth) -/
def lfK (k : Int × Bool) : List PySem.Leaf := [.num k.1, .num (if k.2 = true then 1 else 0)]
def lfD (k : Int × Bool) : DV := .tup [.int k.1, .bl k.2]
/-- an entry: the key, where its tuple stands, what is kept -/
abbrev LfE : Type := (Int × Bool) × Addr × V × Value
def LfE.raw (e : LfE) : List PySem.Leaf × Addr × Value := (lfK e.1, e.2.1, e.2.2.2)
def DLf (a : Addr) (xs : List (List PySem.Leaf × Addr × Value)) (h : Heap) : Prop :=
  (a == sysModules) = false ∧ xs.length ≤ sizeLine ∧ (xs.map (·.1)).Nodup ∧
    ∃ o es ep, h.get? a = some o ∧ o.ExactDict ∧ o.data = .dict es ep ∧ ∀ (P : Program) (w : World), es.toList = xs.map (entryOfKey (tupleKind (PySem.leafKind P w)))
def CellOk (F : Fm) (H : Hp) (a : Addr) : Cell → Prop
  | .lst ds => ∃ xs, H a = some (.lst xs) ∧ RelL F ds xs
  | .dik ks ds => ∃ xs, ks.length = ds.length ∧ H a = some (.dK (ks.zip xs)) ∧ RelL F ds xs
  | .dit ks ds => ∃ xs, ks.length = ds.length ∧ H a = some (.dT (ks.zip xs)) ∧ RelL F ds xs
  | .ins C fs => ∃ dx xs, H a = some (.ins (He.ga F.K C) dx ((fs.map (·.1)).zip xs)) ∧ RelL F (fs.map (·.2)) xs
  | .frz d => Rel F d (.ref a)
  | .lok ks ds => ∃ o xs, ks.length = ds.length ∧ F.P a = some (.frz o (.dK (ks.zip xs))) ∧ RelL F ds xs
  | .dlf ks ds => ∃ es : List LfE, H a = some (.ext (DLf a (es.map LfE.raw))) ∧ es.map (·.1) = ks ∧ RelL F (ks.map lfD) (es.map fun e => V.ref e.2.1) ∧ RelL F ds (es.map (·.2.2.1)) ∧ ∀ e ∈ es, RelV e.2.2.1 e.2.2.2
  | .gone => True
/-- what is locked stays locked -/
def PF (F F' : Fm) : Prop := ∀ a o u, F.P a = some (.frz o u) → F'.P a = some (.frz o u)
theorem Le.pf {F F' : Fm} (h : Le F F') : PF F F' := fun a o u e => by rw [h.p]; exact e
structure Rep (F : Fm) (S : Sto) (H : Hp) : Prop where
  g : Same F.G H
  b : Same F.B H
  p : Same F.P H
  tup : ∀ a xs, H a = some (.tup xs) → F.G a = some (.tup xs)
  len : F.lm.length = S.length
  cell : ∀ (n : Nat) (c : Cell) (a : Addr), S[n]? = some c → F.lm[n]? = some a → CellOk F H a c ∧ (c.live = true → F.G a = none ∧ F.free a)
  inj : ∀ (n m : Nat) (c c' : Cell) (a : Addr), S[n]? = some c → S[m]? = some c' → c.live = true → c'.live = true → F.lm[n]? = some a → F.lm[m]? = some a → n = m

theorem CellOk.wk {F F' : Fm} (w : Wk F F') (pf : PF F F') {H H' : Hp} {a : Addr} : ∀ {c : Cell}, CellOk F H a c → (c.live = true → H' a = H a) → CellOk F' H' a c
  | .lst ds, ⟨xs, e, r⟩, h => ⟨xs, (h rfl).trans e, RelL.wk w _ _ r⟩
  | .dik ks ds, ⟨xs, z, e, r⟩, h => ⟨xs, z, (h rfl).trans e, RelL.wk w _ _ r⟩
  | .dit ks ds, ⟨xs, z, e, r⟩, h => ⟨xs, z, (h rfl).trans e, RelL.wk w _ _ r⟩
  | .ins C fs, ⟨dx, xs, e, r⟩, h => ⟨dx, xs, by rw [w.k]; exact (h rfl).trans e, RelL.wk w _ _ r⟩
  | .frz d, r, _ => Rel.wk w _ _ r
  | .lok ks ds, ⟨o, xs, z, e, r⟩, _ => ⟨o, xs, z, pf _ _ _ e, RelL.wk w _ _ r⟩
  | .dlf ks ds, ⟨es, e, z, r1, r2, t⟩, h => ⟨es, (h rfl).trans e, z, RelL.wk w _ _ r1, RelL.wk w _ _ r2, t⟩
  | .gone, _, _ => trivial
theorem CellOk.some {F : Fm} {H : Hp} {a : Addr} : ∀ {c : Cell}, CellOk F H a c → c.live = true → ∃ o, H a = some o ∧ ∀ xs, o ≠ .tup xs
  | .lst ds, ⟨xs, e, r⟩, _ => ⟨_, e, fun _ q => nomatch q⟩
  | .dik ks ds, ⟨xs, z, e, r⟩, _ => ⟨_, e, fun _ q => nomatch q⟩
  | .dit ks ds, ⟨xs, z, e, r⟩, _ => ⟨_, e, fun _ q => nomatch q⟩
  | .ins C fs, ⟨dx, xs, e, r⟩, _ => ⟨_, e, fun _ q => nomatch q⟩
  | .frz d, r, h => nomatch h
  | .lok _ _, r, h => nomatch h
  | .dlf ks ds, ⟨es, e, z, r1, r2, t⟩, _ => ⟨_, e, fun _ q => nomatch q⟩
  | .gone, _, h => nomatch h
theorem Rep.at {F : Fm} {S : Sto} {H : Hp} (R : Rep F S H) {n : Nat} {c : Cell} (h : S[n]? = some c) : ∃ a, F.lm[n]? = some a ∧ CellOk F H a c ∧ (c.live = true → F.G a = none ∧ F.free a) := by
  have h1 := (List.getElem?_eq_some_iff.mp h).1
  have e : F.lm[n]? = some (F.lm[n]'(by rw [R.len]; exact h1)) := List.getElem?_eq_getElem _
  exact ⟨_, e, R.cell n c _ h e⟩
theorem same_new {H : Hp} {p : Addr} {o : HO} (h : H p = none) : Same H (upd H p o) := fun a u e => by
  rw [upd_ne (ne_of_none e h)]
  exact e
theorem same_mono {G H : Hp} (s : Same G H) {p : Addr} {o : HO} (h : G p = none) : Same G (upd H p o) := fun a u e => by
  rw [upd_ne (ne_of_none e h)]
  exact s _ _ e
theorem Same.none {G H : Hp} (s : Same G H) {p : Addr} (h : H p = none) : G p = none := s.free h

/-- a new frozen object -/
abbrev Fm.add (F : Fm) (p : Addr) (o : HO) : Fm := { F with G := upd F.G p o }
theorem Fm.add_le {F : Fm} {p : Addr} {o : HO} (h : F.G p = none) (hb : F.free p) : Le F (F.add p o) :=
  ⟨rfl, rfl, rfl, same_new h, fun a u e => by
    by_cases q : a = p
    · exact .inr (by rw [q]; exact hb)
    · have e2 : upd F.G p o a = some u := e
      rw [upd_ne q] at e2
      exact .inl e2, List.prefix_refl _⟩
theorem Rep.add {F : Fm} {S : Sto} {H : Hp} (R : Rep F S H) {p : Addr} {o : HO} (hp : H p = none) : Rep (F.add p o) S (upd H p o) ∧ Le F (F.add p o) := by
  have gp : F.G p = none := R.g.free hp
  have bp : F.free p := ⟨R.b.free hp, R.p.free hp⟩
  have le := Fm.add_le (F := F) (o := o) gp bp
  refine ⟨⟨fun a u e => ?_, same_mono R.b bp.1, same_mono R.p bp.2, fun a xs e => ?_, R.len, fun n c a h e => ?_, R.inj⟩, le⟩
  · by_cases q : a = p
    · subst q
      have e2 : upd F.G a o a = some u := e
      rw [upd_same] at e2 ⊢
      exact e2
    · have e2 : upd F.G p o a = some u := e
      rw [upd_ne q] at e2 ⊢
      exact R.g _ _ e2
  · show upd F.G p o a = _
    by_cases q : a = p
    · subst q
      rw [upd_same] at e ⊢
      exact e
    · rw [upd_ne q] at e ⊢
      exact R.tup _ _ e
  · obtain ⟨k1, k2⟩ := R.cell n c a h e
    refine ⟨k1.wk le.wk le.pf fun hl => ?_, fun hl => ?_⟩
    · obtain ⟨o', e', _⟩ := k1.some hl
      exact upd_ne (ne_of_none e' hp)
    · obtain ⟨o', e', _⟩ := k1.some hl
      refine ⟨?_, (k2 hl).2⟩
      show upd F.G p o a = none
      rw [upd_ne (ne_of_none e' hp)]
      exact (k2 hl).1
/-- a new object beside all this -/
theorem Rep.beside {F : Fm} {S : Sto} {H : Hp} (R : Rep F S H) {p : Addr} {o : HO} (hp : H p = none) (ht : ∀ xs, o ≠ .tup xs) : Rep F S (upd H p o) := by
  have gp : F.G p = none := R.g.free hp
  have bp : F.B p = none := R.b.free hp
  refine ⟨same_mono R.g gp, same_mono R.b bp, same_mono R.p (R.p.free hp), fun a xs e => ?_, R.len, fun n c a h e => ?_, R.inj⟩
  · by_cases q : a = p
    · subst q
      rw [upd_same] at e
      exact absurd (Option.some.inj e) (ht xs)
    · rw [upd_ne q] at e
      exact R.tup _ _ e
  · obtain ⟨k1, k2⟩ := R.cell n c a h e
    refine ⟨k1.wk (Le.refl F).wk (Le.refl F).pf fun hl => ?_, k2⟩
    obtain ⟨o', e', _⟩ := k1.some hl
    exact upd_ne (ne_of_none e' hp)
/-- a new cell for an object that is beside all this -/
abbrev Fm.cell (F : Fm) (p : Addr) : Fm := { F with lm := F.lm ++ [p] }
theorem Fm.cell_le (F : Fm) (p : Addr) : Le F (F.cell p) := ⟨rfl, rfl, rfl, Same.refl _, fun _ _ h => .inl h, List.prefix_append _ _⟩
theorem get_snoc {α : Type} {l : List α} {x y : α} {n : Nat} (h : (l ++ [x])[n]? = some y) : l[n]? = some y ∨ (n = l.length ∧ y = x) := by
  by_cases q : n < l.length
  · rw [List.getElem?_append_left q] at h
    exact .inl h
  · rw [List.getElem?_append_right (by omega)] at h
    by_cases q2 : n - l.length = 0
    · rw [q2] at h
      exact .inr ⟨by omega, (Option.some.inj h).symm⟩
    · rw [List.getElem?_eq_none (by simp; omega)] at h
      cases h
theorem Rep.cell_new {F : Fm} {S : Sto} {H : Hp} (R : Rep F S H) {p : Addr} {c : Cell} (hc : CellOk (F.cell p) H p c) (gp : F.G p = none) (bp : F.free p)
    (hn : ∀ (n : Nat) (c : Cell), S[n]? = some c → c.live = true → F.lm[n]? ≠ some p) : Rep (F.cell p) (S ++ [c]) H := by
  refine ⟨R.g, R.b, R.p, R.tup, by simp [R.len], fun n c' a h e => ?_, fun n m c1 c2 a h1 h2 l1 l2 e1 e2 => ?_⟩
  · rcases get_snoc h with h | ⟨hn2, hh⟩
    · have hlt := (List.getElem?_eq_some_iff.mp h).1
      have e' : F.lm[n]? = some a := by
        have e0 : (F.lm ++ [p])[n]? = some a := e
        rw [List.getElem?_append_left (by rw [R.len]; exact hlt)] at e0
        exact e0
      obtain ⟨k1, k2⟩ := R.cell n c' a h e'
      exact ⟨k1.wk (F.cell_le p).wk (F.cell_le p).pf fun _ => rfl, k2⟩
    · subst hh
      have e0 : (F.lm ++ [p])[n]? = some a := e
      rw [hn2, ← R.len] at e0
      simp at e0
      subst e0
      exact ⟨hc, fun _ => ⟨gp, bp⟩⟩
  · have r1 : ∀ {n : Nat} {c : Cell}, (S ++ [c])[n]? = some c → True := fun _ => trivial
    have e1' : (F.lm ++ [p])[n]? = some a := e1
    have e2' : (F.lm ++ [p])[m]? = some a := e2
    have old : ∀ {n : Nat} {c' : Cell}, S[n]? = some c' → (F.lm ++ [p])[n]? = some a → F.lm[n]? = some a := fun {n c'} h e0 => by
      rw [List.getElem?_append_left (by rw [R.len]; exact (List.getElem?_eq_some_iff.mp h).1)] at e0
      exact e0
    have new : ∀ {n : Nat}, n = S.length → (F.lm ++ [p])[n]? = some a → a = p := fun {n} h e0 => by
      rw [h, ← R.len] at e0
      simp at e0
      exact e0.symm
    rcases get_snoc h1 with h1 | ⟨h1, hh1⟩
    · rcases get_snoc h2 with h2 | ⟨h2, hh2⟩
      · exact R.inj n m c1 c2 a h1 h2 l1 l2 (old h1 e1') (old h2 e2')
      · have := new h2 e2'
        subst this
        exact absurd (old h1 e1') (hn n c1 h1 l1)
    · rcases get_snoc h2 with h2 | ⟨h2, hh2⟩
      · have := new h1 e1'
        subst this
        exact absurd (old h2 e2') (hn m c2 h2 l2)
      · rw [h1, h2]
theorem Rep.noCell {F : Fm} {S : Sto} {H : Hp} (R : Rep F S H) {p : Addr} (hp : H p = none) : ∀ (n : Nat) (c : Cell), S[n]? = some c → c.live = true → F.lm[n]? ≠ some p := fun n c h l e => by
  obtain ⟨k1, _⟩ := R.cell n c p h e
  obtain ⟨o, e', _⟩ := k1.some l
  rw [hp] at e'
  cases e'
theorem Rep.alloc {F : Fm} {S : Sto} {H : Hp} (R : Rep F S H) {p : Addr} {o : HO} {c : Cell} (hp : H p = none) (ht : ∀ xs, o ≠ .tup xs) (hc : CellOk (F.cell p) (upd H p o) p c) : Rep (F.cell p) (S ++ [c]) (upd H p o) :=
  (R.beside hp ht).cell_new hc (R.g.free hp) ⟨R.b.free hp, R.p.free hp⟩ (R.noCell hp)
/-- a live cell is written -/
theorem Rep.write {F : Fm} {S : Sto} {H : Hp} (R : Rep F S H) {n : Nat} {c c' : Cell} {a : Addr} {o : HO} (h : S[n]? = some c) (l : c.live = true) (e : F.lm[n]? = some a) (ht : ∀ xs, o ≠ .tup xs) (l' : c'.live = true)
    (hc : CellOk F (upd H a o) a c') : Rep F (S.set n c') (upd H a o) := by
  obtain ⟨k1, k2⟩ := R.cell n c a h e
  obtain ⟨ga, ba⟩ := k2 l
  obtain ⟨o0, e0, t0⟩ := k1.some l
  have hlt := (List.getElem?_eq_some_iff.mp h).1
  refine ⟨same_mono R.g ga, same_mono R.b ba.1, same_mono R.p ba.2, fun b xs q => ?_, by simp [R.len], fun m cm b hm em => ?_, fun m1 m2 c1 c2 b h1 h2 l1 l2 e1 e2 => ?_⟩
  · by_cases z : b = a
    · subst z
      rw [upd_same] at q
      exact absurd (Option.some.inj q) (ht xs)
    · rw [upd_ne z] at q
      exact R.tup _ _ q
  · by_cases z : m = n
    · subst z
      rw [List.getElem?_set_self hlt] at hm
      cases hm
      rw [e] at em
      cases em
      exact ⟨hc, fun _ => ⟨ga, ba⟩⟩
    · rw [List.getElem?_set_ne (fun q => z q.symm)] at hm
      obtain ⟨j1, j2⟩ := R.cell m cm b hm em
      refine ⟨j1.wk (Le.refl F).wk (Le.refl F).pf fun lm => ?_, j2⟩
      refine upd_ne fun q => ?_
      subst q
      exact z (R.inj m n cm c b hm h lm l em e)
  · have old : ∀ {m : Nat} {cm : Cell}, (S.set n c')[m]? = some cm → cm.live = true → ∃ cm', S[m]? = some cm' ∧ cm'.live = true := fun {m cm} hm lm => by
      by_cases z : m = n
      · subst z
        exact ⟨c, h, l⟩
      · rw [List.getElem?_set_ne (fun q => z q.symm)] at hm
        exact ⟨cm, hm, lm⟩
    obtain ⟨d1, x1, y1⟩ := old h1 l1
    obtain ⟨d2, x2, y2⟩ := old h2 l2
    exact R.inj m1 m2 d1 d2 b x1 x2 y1 y2 e1 e2
end Dn

namespace Dn
open PySem L2

/-! ### readings by denotations -/
abbrev Ev := List (Option DV)
abbrev DE := Ev → Sto → Option (DV × Sto)
abbrev DA := Ev → Sto → Option (List DV × Sto)
abbrev DG := DV → Ev → Sto → Option (Ev × Sto)
inductive Out where
  | nx (ρ : Ev) (S : Sto)
  | rt (d : DV) (S : Sto)
  | bk (ρ : Ev) (S : Sto)
  | ct (ρ : Ev) (S : Sto)
def Out.S : Out → Sto
  | .nx _ S => S
  | .rt _ S => S
  | .bk _ S => S
  | .ct _ S => S
abbrev DS := Ev → Sto → Option Out
structure RelE (F : Fm) (ρ : Ev) (σ : St) : Prop where
  len : ρ.length = σ.length
  at_ : ∀ (i : Nat) (d : DV), ρ[i]? = some (some d) → ∃ v, σ[i]? = some (some v) ∧ Rel F d v
theorem RelE.wk {F F' : Fm} (w : Wk F F') {ρ : Ev} {σ : St} (r : RelE F ρ σ) : RelE F' ρ σ := ⟨r.len, fun i d e => by
  obtain ⟨v, h1, h2⟩ := r.at_ i d e
  exact ⟨v, h1, Rel.wk w _ _ h2⟩⟩
theorem RelE.le {F F' : Fm} (w : Le F F') {ρ : Ev} {σ : St} (r : RelE F ρ σ) : RelE F' ρ σ := r.wk w.wk
theorem RelE.set {F : Fm} {ρ : Ev} {σ : St} (r : RelE F ρ σ) (i : Nat) {d : DV} {v : V} (h : Rel F d v) : RelE F (ρ.set i (some d)) (σ.set i (some v)) := by
  refine ⟨by simp [r.len], fun j e hj => ?_⟩
  by_cases q : j = i
  · subst q
    have hlt := (List.getElem?_eq_some_iff.mp hj).1
    rw [List.length_set] at hlt
    rw [List.getElem?_set_self hlt] at hj
    cases hj
    exact ⟨v, List.getElem?_set_self (by rw [← r.len]; exact hlt), h⟩
  · rw [List.getElem?_set_ne (fun z => q z.symm)] at hj
    rw [List.getElem?_set_ne (fun z => q z.symm)]
    exact r.at_ j e hj
def PostE (F : Fm) (S : Sto) (d : DV) (Q : VK) : Prop := ∀ F' H' v, Le F F' → Rep F' S H' → Rel F' d v → Q v H'
def PostT (F : Fm) (S : Sto) (b : Bool) (Q : Bool → Hp → Prop) : Prop := ∀ F' H', Le F F' → Rep F' S H' → Q b H'
def PostA (F : Fm) (S : Sto) (ds : List DV) (Q : List V → Hp → Prop) : Prop := ∀ F' H' vs, Le F F' → Rep F' S H' → RelL F' ds vs → Q vs H'
def PostO (F : Fm) (D : Ends) (H : Hp) : Out → Prop
  | .nx ρ _ => ∀ σ, RelE F ρ σ → D.nx σ H
  | .rt d _ => ∀ v, Rel F d v → D.rt v H
  | .bk ρ _ => ∀ σ, RelE F ρ σ → D.bk σ H
  | .ct ρ _ => ∀ σ, RelE F ρ σ → D.ct σ H
def PostS (F : Fm) (o : Out) (D : Ends) : Prop := ∀ F' H', Le F F' → Rep F' o.S H' → PostO F' D H' o
theorem PostE.le {F F' : Fm} {S : Sto} {d : DV} {Q : VK} (h : PostE F S d Q) (w : Le F F') : PostE F' S d Q := fun F2 H2 v w2 => h F2 H2 v (w.trans w2)
theorem PostS.le {F F' : Fm} {o : Out} {D : Ends} (h : PostS F o D) (w : Le F F') : PostS F' o D := fun F2 H2 w2 => h F2 H2 (w.trans w2)
def rdE (K : PySem.W.Frag) (f : DE) : TE := fun σ H Q => ∃ F S ρ d S', F.K = K ∧ Rep F S H ∧ RelE F ρ σ ∧ f ρ S = some (d, S') ∧ PostE F S' d Q
def rdT (K : PySem.W.Frag) (f : DE) : TT := fun σ H Q => ∃ F S ρ b S', F.K = K ∧ Rep F S H ∧ RelE F ρ σ ∧ f ρ S = some (.bl b, S') ∧ PostT F S' b Q
def rdA (K : PySem.W.Frag) (f : DA) : TA := fun σ H Q => ∃ F S ρ ds S', F.K = K ∧ Rep F S H ∧ RelE F ρ σ ∧ f ρ S = some (ds, S') ∧ PostA F S' ds Q
def rdS (K : PySem.W.Frag) (f : DS) : TS := fun D σ H => ∃ F S ρ o, F.K = K ∧ Rep F S H ∧ RelE F ρ σ ∧ f ρ S = some o ∧ PostS F o D
def rdG (K : PySem.W.Frag) (g : DG) : TG := fun v σ H Q => ∃ F S ρ d ρ' S', F.K = K ∧ Rep F S H ∧ RelE F ρ σ ∧ Rel F d v ∧ g d ρ S = some (ρ', S') ∧ ∀ F' H' σ', Le F F' → Rep F' S' H' → RelE F' ρ' σ' → Q σ' H'
structure ED (X : Cx) (e : Expr) (f : DE) : Prop where
  pe : PE X e (rdE X.K f)
structure TD (X : Cx) (e : Expr) (f : DE) : Prop where
  pt : PT X e (rdT X.K f)
structure TDW (X : Cx) (e : Expr) (f : DE) : Prop where
  pw : PW X e (rdT X.K f)
structure AD (X : Cx) (es : List Expr) (f : DA) : Prop where
  pa : PA X es (rdA X.K f)
structure SD (X : Cx) (st : Stmt) (f : DS) : Prop where
  ps : PS X st (rdS X.K f)
structure SDs (X : Cx) (st : List Stmt) (f : DS) : Prop where
  ps : PSs X st (rdS X.K f)
structure GD (X : Cx) (e : Expr) (g : DG) : Prop where
  pg : PG X e (rdG X.K g)
section
variable {X : Cx} {e : Expr}
theorem ED.of {t : TE} {f : DE} (h : PE X e t) (m : ∀ F S H ρ σ d S' Q, F.K = X.K → Rep F S H → RelE F ρ σ → f ρ S = some (d, S') → PostE F S' d Q → t σ H Q) : ED X e f :=
  ⟨⟨fun pins s σ H Q I ⟨F, S, ρ, d, S', hk, R, r, hf, hq⟩ => h.run pins s σ H Q I (m F S H ρ σ d S' Q hk R r hf hq)⟩⟩
theorem TD.of {t : TT} {f : DE} (h : PT X e t) (m : ∀ F S H ρ σ b S' Q, F.K = X.K → Rep F S H → RelE F ρ σ → f ρ S = some (.bl b, S') → PostT F S' b Q → t σ H Q) : TD X e f :=
  ⟨⟨fun pins s σ H Q I ⟨F, S, ρ, d, S', hk, R, r, hf, hq⟩ => h.run pins s σ H Q I (m F S H ρ σ d S' Q hk R r hf hq)⟩⟩
theorem TDW.of {t : TT} {f : DE} (h : PW X e t) (m : ∀ F S H ρ σ b S' Q, F.K = X.K → Rep F S H → RelE F ρ σ → f ρ S = some (.bl b, S') → PostT F S' b Q → t σ H Q) : TDW X e f :=
  ⟨⟨fun whole pins s σ H Q I ⟨F, S, ρ, d, S', hk, R, r, hf, hq⟩ => h.run whole pins s σ H Q I (m F S H ρ σ d S' Q hk R r hf hq)⟩⟩
theorem AD.of {es : List Expr} {t : TA} {f : DA} (h : PA X es t) (m : ∀ F S H ρ σ d S' Q, F.K = X.K → Rep F S H → RelE F ρ σ → f ρ S = some (d, S') → PostA F S' d Q → t σ H Q) : AD X es f :=
  ⟨⟨fun pos pins s σ H Q I ⟨F, S, ρ, d, S', hk, R, r, hf, hq⟩ => h.run pos pins s σ H Q I (m F S H ρ σ d S' Q hk R r hf hq)⟩⟩
theorem SD.of {st : Stmt} {t : TS} {f : DS} (h : PS X st t) (m : ∀ F S H ρ σ o D, F.K = X.K → Rep F S H → RelE F ρ σ → f ρ S = some o → PostS F o D → t D σ H) : SD X st f :=
  ⟨⟨fun pins s σ H D I ⟨F, S, ρ, o, hk, R, r, hf, hq⟩ => h.run pins s σ H D I (m F S H ρ σ o D hk R r hf hq)⟩⟩
theorem SDs.of {st : List Stmt} {t : TS} {f : DS} (h : PSs X st t) (m : ∀ F S H ρ σ o D, F.K = X.K → Rep F S H → RelE F ρ σ → f ρ S = some o → PostS F o D → t D σ H) : SDs X st f :=
  ⟨⟨fun pins s σ H D I ⟨F, S, ρ, o, hk, R, r, hf, hq⟩ => h.run pins s σ H D I (m F S H ρ σ o D hk R r hf hq)⟩⟩
theorem GD.of {t : TG} {g : DG} (h : PG X e t) (m : ∀ F S H ρ σ d v ρ' S' Q, F.K = X.K → Rep F S H → RelE F ρ σ → Rel F d v → g d ρ S = some (ρ', S') → (∀ F' H' σ', Le F F' → Rep F' S' H' → RelE F' ρ' σ' → Q σ' H') → t v σ H Q) : GD X e g :=
  ⟨⟨fun pins s σ H v u Q I rv ⟨F, S, ρ, d, ρ', S', hk, R, r, rd, hf, hq⟩ => h.run pins s σ H v u Q I rv (m F S H ρ σ d v ρ' S' Q hk R r rd hf hq)⟩⟩
end
section
variable {K : PySem.W.Frag} {F : Fm} {S S' S1 : Sto} {H : Hp} {ρ : Ev} {σ : St} {d : DV} {Q : VK}
/-- a part is run: what is behind it -/
theorem rdE.go {f : DE} (hk : F.K = K) (R : Rep F S H) (r : RelE F ρ σ) (hf : f ρ S = some (d, S1)) (k : ∀ F' H' v, Le F F' → F'.K = K → Rep F' S1 H' → RelE F' ρ σ → Rel F' d v → Q v H') : rdE K f σ H Q :=
  ⟨F, S, ρ, d, S1, hk, R, r, hf, fun F' H' v le R' r' => k F' H' v le (le.k.trans hk) R' (r.le le) r'⟩
theorem rdT.go {f : DE} {b : Bool} {Q : Bool → Hp → Prop} (hk : F.K = K) (R : Rep F S H) (r : RelE F ρ σ) (hf : f ρ S = some (.bl b, S1)) (k : ∀ F' H', Le F F' → F'.K = K → Rep F' S1 H' → RelE F' ρ σ → Q b H') : rdT K f σ H Q :=
  ⟨F, S, ρ, b, S1, hk, R, r, hf, fun F' H' le R' => k F' H' le (le.k.trans hk) R' (r.le le)⟩
theorem rdA.go {f : DA} {ds : List DV} {Q : List V → Hp → Prop} (hk : F.K = K) (R : Rep F S H) (r : RelE F ρ σ) (hf : f ρ S = some (ds, S1)) (k : ∀ F' H' vs, Le F F' → F'.K = K → Rep F' S1 H' → RelE F' ρ σ → RelL F' ds vs → Q vs H') : rdA K f σ H Q :=
  ⟨F, S, ρ, ds, S1, hk, R, r, hf, fun F' H' v le R' r' => k F' H' v le (le.k.trans hk) R' (r.le le) r'⟩
end

/-! ### names, constants -/
section
variable {X : Cx} {e a b : Expr} {pos : Pos}
def dVar (i : Nat) : DE := fun ρ S => match ρ[i]? with
  | some (some d) => some (d, S)
  | _ => none
theorem dVar_some {i : Nat} {ρ : Ev} {S : Sto} {d : DV} {S' : Sto} (h : dVar i ρ S = some (d, S')) : ρ[i]? = some (some d) ∧ S' = S := by
  unfold dVar at h
  split at h
  · rename_i d' e
    cases h
    exact ⟨e, rfl⟩
  · cases h
theorem ed_var {i : Nat} (h : PE X e (tVar i)) : ED X e (dVar i) := .of h fun F S H ρ σ d S' Q hk R r hf hq => by
  obtain ⟨h1, rfl⟩ := dVar_some hf
  obtain ⟨v, e1, e2⟩ := r.at_ i d h1
  exact ⟨v, e1, hq F H v (.refl F) R e2⟩
def dC (d : DV) : DE := fun _ S => some (d, S)
theorem ed_c {d : DV} {v : V} (h : PE X e (tC v)) (hr : ∀ F : Fm, Rel F d v) : ED X e (dC d) := .of h fun F S H ρ σ d' S' Q hk R r hf hq => by
  have e : some (d, S) = some (d', S') := hf
  cases e
  exact hq F H v (.refl F) R (hr F)
theorem ed_int {i : Int} {j : Nat} : ED X (.Constant (.int i) j pos) (dC (.int i)) := ed_c pe_int fun _ => rfl
theorem ed_bl {i : Bool} {j : Nat} : ED X (.Constant (.bool i) j pos) (dC (.bl i)) := ed_c pe_bl fun _ => rfl
theorem ed_non {j : Nat} : ED X (.Constant .none j pos) (dC .non) := ed_c pe_non fun _ => rfl
theorem ed_str {i : Str} {j : Nat} : ED X (.Constant (.str i) j pos) (dC (.str i)) := ed_c pe_str fun _ => rfl

/-! ### operators -/
abbrev P1 := DV → Sto → Option (DV × Sto)
abbrev P2 := DV → DV → Sto → Option (DV × Sto)
abbrev PL := List DV → Sto → Option (DV × Sto)
def dUn (p : P1) (f : DE) : DE := fun ρ S => match f ρ S with
  | some (x, S1) => p x S1
  | none => none
def dBin (p : P2) (f g : DE) : DE := fun ρ S => match f ρ S with
  | some (x, S1) => (match g ρ S1 with
    | some (y, S2) => p x y S2
    | none => none)
  | none => none
def Ok1 (K : PySem.W.Frag) (p : P1) (r : V → Hp → VK → Prop) : Prop := ∀ F S H x vx d S' Q, F.K = K → Rep F S H → Rel F x vx → p x S = some (d, S') → PostE F S' d Q → r vx H Q
def Ok2 (K : PySem.W.Frag) (p : P2) (r : R2) : Prop := ∀ F S H x y vx vy d S' Q, F.K = K → Rep F S H → Rel F x vx → Rel F y vy → p x y S = some (d, S') → PostE F S' d Q → r vx vy H Q
def OkL (K : PySem.W.Frag) (p : PL) (r : List V → Hp → VK → Prop) : Prop := ∀ F S H xs vs d S' Q, F.K = K → Rep F S H → RelL F xs vs → p xs S = some (d, S') → PostE F S' d Q → r vs H Q
theorem dUn_some {p : P1} {f : DE} {ρ : Ev} {S : Sto} {z : DV × Sto} (h : dUn p f ρ S = some z) : ∃ x S1, f ρ S = some (x, S1) ∧ p x S1 = some z := by
  unfold dUn at h
  split at h
  · exact ⟨_, _, by assumption, h⟩
  · cases h
theorem dBin_some {p : P2} {f g : DE} {ρ : Ev} {S : Sto} {z : DV × Sto} (h : dBin p f g ρ S = some z) : ∃ x S1 y S2, f ρ S = some (x, S1) ∧ g ρ S1 = some (y, S2) ∧ p x y S2 = some z := by
  unfold dBin at h
  split at h
  · split at h
    · exact ⟨_, _, _, _, by assumption, by assumption, h⟩
    · cases h
  · cases h
theorem un_go {p : P1} {f : DE} {r : V → Hp → VK → Prop} (hp : Ok1 X.K p r) {F : Fm} {S S' : Sto} {H : Hp} {ρ : Ev} {σ : St} {d : DV} {Q : VK} (hk : F.K = X.K) (R : Rep F S H) (rr : RelE F ρ σ) (hf : dUn p f ρ S = some (d, S')) (hq : PostE F S' d Q) : tUn r (rdE X.K f) σ H Q := by
  obtain ⟨x, S1, h1, h2⟩ := dUn_some hf
  exact rdE.go hk R rr h1 fun F1 H1 v le hk1 R1 r1 rx => hp F1 S1 H1 x v d S' Q hk1 R1 rx h2 (hq.le le)
theorem bin_go {p : P2} {f g : DE} {r : R2} (hp : Ok2 X.K p r) {F : Fm} {S S' : Sto} {H : Hp} {ρ : Ev} {σ : St} {d : DV} {Q : VK} (hk : F.K = X.K) (R : Rep F S H) (rr : RelE F ρ σ) (hf : dBin p f g ρ S = some (d, S')) (hq : PostE F S' d Q) : tOp r (rdE X.K f) (rdE X.K g) σ H Q := by
  obtain ⟨x, S1, y, S2, h1, h2, h3⟩ := dBin_some hf
  exact rdE.go hk R rr h1 fun F1 H1 v le hk1 R1 r1 rx => rdE.go hk1 R1 r1 h2 fun F2 H2 u le2 hk2 R2 r2 ry => hp F2 S2 H2 x y v u d S' Q hk2 R2 (rx.le le2) ry h3 (hq.le (le.trans le2))
theorem ed_bin {op : Operator} {r : R2} {p : P2} {f g : DE} (ho : OpR X (binaryOp op) r) (hp : Ok2 X.K p r) (ha : ED X a f) (hb : ED X b g) : ED X (.BinOp a op b pos) (dBin p f g) :=
  .of (pe_op ho ha.pe hb.pe) fun F S H ρ σ d S' Q hk R rr hf hq => bin_go hp hk R rr hf hq
theorem ed_un {op : UnaryOp} {r : V → Hp → VK → Prop} {p : P1} {f : DE} (ho : UnR X (unaryOp op) r) (hp : Ok1 X.K p r) (ha : ED X a f) : ED X (.UnaryOp op a pos) (dUn p f) :=
  .of (pe_un ho ha.pe) fun F S H ρ σ d S' Q hk R rr hf hq => un_go hp hk R rr hf hq
theorem ed_cmp {op : CmpOp} {r : R2} {p : P2} {f g : DE} (ho : OpR X (compareOp op) r) (hp : Ok2 X.K p r) (ha : ED X a f) (hb : ED X b g) (hm : behindInMarks op b = false) : ED X (.Compare a [op] [b] pos) (dBin p f g) :=
  .of (pe_cmpR ho ha.pe hb.pe hm) fun F S H ρ σ d S' Q hk R rr hf hq => bin_go hp hk R rr hf hq
theorem td_cmp {op : CmpOp} {r : R2} {p : P2} {f g : DE} (ho : OpR X (compareOp op) r) (hp : Ok2 X.K p r) (ha : ED X a f) (hb : ED X b g) (hm : behindInMarks op b = false) : TD X (.Compare a [op] [b] pos) (dBin p f g) :=
  .of (pt_cmpR ho ha.pe hb.pe hm) fun F S H ρ σ d S' Q hk R rr hf hq => bin_go hp hk R rr hf fun F' H' v le R' rv => by
    have e : v = .bl d := rv
    exact ⟨d, e, hq F' H' le R'⟩
/-- a < b < c, b asked once -/
def dChain (p q : P2) (f g h : DE) : DE := fun ρ S => match f ρ S with
  | some (x, S1) => (match g ρ S1 with
    | some (y, S2) => (match p x y S2 with
      | some (.bl true, S3) => (match h ρ S3 with
        | some (z, S4) => q y z S4
        | none => none)
      | some (.bl false, S3) => some (.bl false, S3)
      | _ => none)
    | none => none)
  | none => none

/-! ### and, or, not, if else -/
def dAnd (f g : DE) : DE := fun ρ S => match f ρ S with
  | some (.bl true, S1) => g ρ S1
  | some (.bl false, S1) => some (.bl false, S1)
  | _ => none
def dOr (f g : DE) : DE := fun ρ S => match f ρ S with
  | some (.bl true, S1) => some (.bl true, S1)
  | some (.bl false, S1) => g ρ S1
  | _ => none
def dNot (f : DE) : DE := fun ρ S => match f ρ S with
  | some (.bl c, S1) => some (.bl (!c), S1)
  | _ => none
def dIf (c f g : DE) : DE := fun ρ S => match c ρ S with
  | some (.bl true, S1) => f ρ S1
  | some (.bl false, S1) => g ρ S1
  | _ => none
theorem dAnd_some {f g : DE} {ρ : Ev} {S : Sto} {z : DV × Sto} (h : dAnd f g ρ S = some z) : (∃ S1, f ρ S = some (.bl true, S1) ∧ g ρ S1 = some z) ∨ (∃ S1, f ρ S = some (.bl false, S1) ∧ z = (.bl false, S1)) := by
  unfold dAnd at h
  split at h
  · exact .inl ⟨_, by assumption, h⟩
  · exact .inr ⟨_, by assumption, (Option.some.inj h).symm⟩
  · cases h
theorem dOr_some {f g : DE} {ρ : Ev} {S : Sto} {z : DV × Sto} (h : dOr f g ρ S = some z) : (∃ S1, f ρ S = some (.bl true, S1) ∧ z = (.bl true, S1)) ∨ (∃ S1, f ρ S = some (.bl false, S1) ∧ g ρ S1 = some z) := by
  unfold dOr at h
  split at h
  · exact .inl ⟨_, by assumption, (Option.some.inj h).symm⟩
  · exact .inr ⟨_, by assumption, h⟩
  · cases h
theorem dNot_some {f : DE} {ρ : Ev} {S : Sto} {z : DV × Sto} (h : dNot f ρ S = some z) : ∃ c S1, f ρ S = some (.bl c, S1) ∧ z = (.bl (!c), S1) := by
  unfold dNot at h
  split at h
  · exact ⟨_, _, by assumption, (Option.some.inj h).symm⟩
  · cases h
variable {rest : List Expr} {f g : DE}
theorem td_val (h : ED X e f) (he : ∀ whole, isTrue e X.env whole = (do let v ← whole; standAt e.pos; holding [v] (truthy v)) := by intro _; rfl) : TD X e f :=
  .of (pt_val h.pe he) fun F S H ρ σ b S' Q hk R rr hf hq => rdE.go hk R rr hf fun F' H' v le _ R' _ rv => by
    have e : v = .bl b := rv
    exact ⟨b, e, hq F' H' le R'⟩
theorem TDW.td (h : TDW X e f) : TD X e f := ⟨h.pw.pt⟩
theorem tw_and1 (h : TD X a f) : TDW X (.BoolOp .And [a] pos) f := ⟨pw_and1 h.pt⟩
theorem tw_or1 (h : TD X a f) : TDW X (.BoolOp .Or [a] pos) f := ⟨pw_or1 h.pt⟩
theorem and_go {F : Fm} {S S' : Sto} {H : Hp} {ρ : Ev} {σ : St} {c : Bool} {Q : Bool → Hp → Prop} (hk : F.K = X.K) (R : Rep F S H) (rr : RelE F ρ σ) (hf : dAnd f g ρ S = some (.bl c, S')) (hq : PostT F S' c Q) : tAnd (rdT X.K f) (rdT X.K g) σ H Q := by
  rcases dAnd_some hf with ⟨S1, h1, h2⟩ | ⟨S1, h1, h2⟩
  · refine rdT.go hk R rr h1 fun F1 H1 le hk1 R1 r1 => ?_
    rw [if_pos rfl]
    exact rdT.go hk1 R1 r1 h2 fun F2 H2 le2 hk2 R2 _ => hq F2 H2 (le.trans le2) R2
  · cases h2
    refine rdT.go hk R rr h1 fun F1 H1 le hk1 R1 r1 => ?_
    rw [if_neg Bool.false_ne_true]
    exact hq F1 H1 le R1
theorem or_go {F : Fm} {S S' : Sto} {H : Hp} {ρ : Ev} {σ : St} {c : Bool} {Q : Bool → Hp → Prop} (hk : F.K = X.K) (R : Rep F S H) (rr : RelE F ρ σ) (hf : dOr f g ρ S = some (.bl c, S')) (hq : PostT F S' c Q) : tOr (rdT X.K f) (rdT X.K g) σ H Q := by
  rcases dOr_some hf with ⟨S1, h1, h2⟩ | ⟨S1, h1, h2⟩
  · cases h2
    refine rdT.go hk R rr h1 fun F1 H1 le hk1 R1 r1 => ?_
    rw [if_pos rfl]
    exact hq F1 H1 le R1
  · refine rdT.go hk R rr h1 fun F1 H1 le hk1 R1 r1 => ?_
    rw [if_neg Bool.false_ne_true]
    exact rdT.go hk1 R1 r1 h2 fun F2 H2 le2 hk2 R2 _ => hq F2 H2 (le.trans le2) R2
theorem tw_and (ha : TD X a f) (hb : TDW X (.BoolOp .And (b :: rest) pos) g) : TDW X (.BoolOp .And (a :: b :: rest) pos) (dAnd f g) :=
  .of (pw_and ha.pt hb.pw) fun F S H ρ σ c S' Q hk R rr hf hq => and_go hk R rr hf hq
theorem tw_or (ha : TD X a f) (hb : TDW X (.BoolOp .Or (b :: rest) pos) g) : TDW X (.BoolOp .Or (a :: b :: rest) pos) (dOr f g) :=
  .of (pw_or ha.pt hb.pw) fun F S H ρ σ c S' Q hk R rr hf hq => or_go hk R rr hf hq
theorem td_not (ha : TD X a f) : TD X (.UnaryOp .Not a pos) (dNot f) :=
  .of (pt_not ha.pt) fun F S H ρ σ c S' Q hk R rr hf hq => by
    obtain ⟨c', S1, h1, h2⟩ := dNot_some hf
    cases h2
    exact rdT.go hk R rr h1 fun F1 H1 le hk1 R1 r1 => hq F1 H1 le R1
theorem ed_one {op : BoolOp} (h : ED X a f) : ED X (.BoolOp op [a] pos) f := ⟨pe_one h.pe⟩
theorem ed_and (ha : ED X a f) (hb : ED X (.BoolOp .And (b :: rest) pos) g) : ED X (.BoolOp .And (a :: b :: rest) pos) (dAnd f g) :=
  .of (pe_and ha.pe hb.pe) fun F S H ρ σ d S' Q hk R rr hf hq => by
    rcases dAnd_some hf with ⟨S1, h1, h2⟩ | ⟨S1, h1, h2⟩
    · refine rdE.go hk R rr h1 fun F1 H1 v le hk1 R1 r1 rv => ⟨true, rv, ?_⟩
      rw [if_pos rfl]
      exact rdE.go hk1 R1 r1 h2 fun F2 H2 v le2 hk2 R2 _ rv => hq F2 H2 v (le.trans le2) R2 rv
    · cases h2
      refine rdE.go hk R rr h1 fun F1 H1 v le hk1 R1 r1 rv => ⟨false, rv, ?_⟩
      rw [if_neg Bool.false_ne_true]
      exact hq F1 H1 _ le R1 rfl
theorem ed_or (ha : ED X a f) (hb : ED X (.BoolOp .Or (b :: rest) pos) g) : ED X (.BoolOp .Or (a :: b :: rest) pos) (dOr f g) :=
  .of (pe_or ha.pe hb.pe) fun F S H ρ σ d S' Q hk R rr hf hq => by
    rcases dOr_some hf with ⟨S1, h1, h2⟩ | ⟨S1, h1, h2⟩
    · cases h2
      refine rdE.go hk R rr h1 fun F1 H1 v le hk1 R1 r1 rv => ⟨true, rv, ?_⟩
      rw [if_pos rfl]
      exact hq F1 H1 _ le R1 rfl
    · refine rdE.go hk R rr h1 fun F1 H1 v le hk1 R1 r1 rv => ⟨false, rv, ?_⟩
      rw [if_neg Bool.false_ne_true]
      exact rdE.go hk1 R1 r1 h2 fun F2 H2 v le2 hk2 R2 _ rv => hq F2 H2 v (le.trans le2) R2 rv
theorem ed_not (ha : ED X a f) : ED X (.UnaryOp .Not a pos) (dNot f) :=
  .of (pe_not ha.pe) fun F S H ρ σ d S' Q hk R rr hf hq => by
    obtain ⟨c', S1, h1, h2⟩ := dNot_some hf
    cases h2
    exact rdE.go hk R rr h1 fun F1 H1 v le hk1 R1 r1 rv => ⟨c', rv, hq F1 H1 _ le R1 rfl⟩
/-! ### argument lists -/
def aNil : DA := fun _ S => some ([], S)
def aCons (f : DE) (g : DA) : DA := fun ρ S => match f ρ S with
  | some (x, S1) => (match g ρ S1 with
    | some (xs, S2) => some (x :: xs, S2)
    | none => none)
  | none => none
theorem aCons_some {f : DE} {g : DA} {ρ : Ev} {S : Sto} {z : List DV × Sto} (h : aCons f g ρ S = some z) : ∃ x S1 xs S2, f ρ S = some (x, S1) ∧ g ρ S1 = some (xs, S2) ∧ z = (x :: xs, S2) := by
  unfold aCons at h
  split at h
  · split at h
    · exact ⟨_, _, _, _, by assumption, by assumption, (Option.some.inj h).symm⟩
    · cases h
  · cases h
theorem ad_nil : AD X [] aNil := .of pa_nil fun F S H ρ σ d S' Q hk R rr hf hq => by
  cases (show some (([] : List DV), S) = some (d, S') from hf)
  exact hq F H [] (.refl F) R rfl
theorem ad_cons {es : List Expr} {g : DA} (ha : ED X e f) (hr : AD X es g) (hs : starEach (e :: es) X.env = (false, eval e X.env) :: starEach es X.env := by rfl) : AD X (e :: es) (aCons f g) :=
  .of (pa_cons ha.pe hr.pa hs) fun F S H ρ σ d S' Q hk R rr hf hq => by
    obtain ⟨x, S1, xs, S2, h1, h2, h3⟩ := aCons_some hf
    cases h3
    exact rdE.go hk R rr h1 fun F1 H1 v le hk1 R1 r1 rx => rdA.go hk1 R1 r1 h2 fun F2 H2 vs le2 hk2 R2 r2 ry => hq F2 H2 (v :: vs) (le.trans le2) R2 (.cons (rx.le le2) ry)
def dPrim (p : PL) (f : DA) : DE := fun ρ S => match f ρ S with
  | some (xs, S1) => p xs S1
  | none => none
theorem dPrim_some {p : PL} {f : DA} {ρ : Ev} {S : Sto} {z : DV × Sto} (h : dPrim p f ρ S = some z) : ∃ x S1, f ρ S = some (x, S1) ∧ p x S1 = some z := by
  unfold dPrim at h
  split at h
  · exact ⟨_, _, by assumption, h⟩
  · cases h
theorem prim_go {p : PL} {f : DA} {r : List V → Hp → VK → Prop} (hp : OkL X.K p r) {F : Fm} {S S' : Sto} {H : Hp} {ρ : Ev} {σ : St} {d : DV} {Q : VK} (hk : F.K = X.K) (R : Rep F S H) (rr : RelE F ρ σ) (hf : dPrim p f ρ S = some (d, S')) (hq : PostE F S' d Q) : rdA X.K f σ H fun vs H1 => r vs H1 Q := by
  obtain ⟨x, S1, h1, h2⟩ := dPrim_some hf
  exact rdA.go hk R rr h1 fun F1 H1 v le hk1 R1 r1 rx => hp F1 S1 H1 x v d S' Q hk1 R1 rx h2 (hq.le le)
/-- anything that asks an argument list, then r -/
theorem ed_prim {es : List Expr} {r : List V → Hp → VK → Prop} {p : PL} {fa : DA} (hpe : ∀ {t : TA}, PA X es t → PE X e (tCB r t)) (hp : OkL X.K p r) (ha : AD X es fa) : ED X e (dPrim p fa) :=
  .of (hpe ha.pa) fun F S H ρ σ d S' Q hk R rr hf hq => prim_go hp hk R rr hf hq

/-! ### tuples and lists written -/
def pTup : PL := fun xs S => if xs.length ≤ sizeLine then some (.tup xs, S) else none
def pLst : PL := fun xs S => if xs.length ≤ sizeLine then some (.lst .own xs, S) else none
def pLstM : PL := fun xs S => if xs.length ≤ sizeLine then some (.loc S.length, S ++ [.lst xs]) else none
theorem of_ite {α : Type} {c : Prop} [Decidable c] {x : Option α} {z : α} (h : (if c then x else none) = some z) : c ∧ x = some z := by
  split at h
  · exact ⟨by assumption, h⟩
  · cases h
theorem new_tup {F : Fm} {S : Sto} {H : Hp} {Q : VK} {ds : List DV} {vs : List V} (R : Rep F S H) (r : RelL F ds vs) (hq : PostE F S (.tup ds) Q) : ∀ p, H p = none → Q (.ref p) (upd H p (.tup vs)) := fun p hp => by
  obtain ⟨R', le⟩ := R.add (o := .tup vs) hp
  exact hq _ _ _ le R' ⟨p, vs, rfl, upd_same, r.le le⟩
theorem new_lst {F : Fm} {S : Sto} {H : Hp} {Q : VK} {ds : List DV} {vs : List V} (R : Rep F S H) (r : RelL F ds vs) (hq : PostE F S (.lst .own ds) Q) : ∀ p, H p = none → Q (.ref p) (upd H p (.lst vs)) := fun p hp => by
  obtain ⟨R', le⟩ := R.add (o := .lst vs) hp
  exact hq _ _ _ le R' ⟨p, vs, rfl, upd_same, r.le le⟩
theorem get_len {α : Type} (l : List α) (x : α) : (l ++ [x])[l.length]? = some x := by
  rw [List.getElem?_append_right (Nat.le_refl _), Nat.sub_self]
  rfl
theorem new_lstM {F : Fm} {S : Sto} {H : Hp} {Q : VK} {ds : List DV} {vs : List V} (R : Rep F S H) (r : RelL F ds vs) (hq : PostE F (S ++ [.lst ds]) (.loc S.length) Q) : ∀ p, H p = none → Q (.ref p) (upd H p (.lst vs)) := fun p hp => by
  have R' := R.alloc (o := .lst vs) (c := .lst ds) hp (fun _ q => nomatch q) ⟨vs, upd_same, r.le (F.cell_le p)⟩
  exact hq _ _ _ (F.cell_le p) R' ⟨p, by rw [← R.len]; exact get_len _ _, rfl⟩
theorem ed_tup {es : List Expr} {fa : DA} {x1} (ha : AD X es fa) : ED X (.Tuple es x1 pos) (dPrim pTup fa) :=
  .of (pe_tup ha.pa) fun F S H ρ σ d S' Q hk R rr hf hq => prim_go (r := fun xs H1 Q => xs.length ≤ sizeLine ∧ ∀ p, H1 p = none → Q (.ref p) (upd H1 p (.tup xs))) (fun F S H xs vs d S' Q hk R rl hp hq => by
    obtain ⟨h1, h2⟩ := of_ite hp
    cases h2
    exact ⟨by rw [← rl.length]; exact h1, new_tup R rl hq⟩) hk R rr hf hq
theorem ed_lst {es : List Expr} {fa : DA} (ha : AD X es fa) : ED X (.List es pos) (dPrim pLst fa) :=
  .of (pe_lst ha.pa) fun F S H ρ σ d S' Q hk R rr hf hq => prim_go (r := fun xs H1 Q => xs.length ≤ sizeLine ∧ ∀ p, H1 p = none → Q (.ref p) (upd H1 p (.lst xs))) (fun F S H xs vs d S' Q hk R rl hp hq => by
    obtain ⟨h1, h2⟩ := of_ite hp
    cases h2
    exact ⟨by rw [← rl.length]; exact h1, new_lst R rl hq⟩) hk R rr hf hq
theorem ed_lstM {es : List Expr} {fa : DA} (ha : AD X es fa) : ED X (.List es pos) (dPrim pLstM fa) :=
  .of (pe_lst ha.pa) fun F S H ρ σ d S' Q hk R rr hf hq => prim_go (r := fun xs H1 Q => xs.length ≤ sizeLine ∧ ∀ p, H1 p = none → Q (.ref p) (upd H1 p (.lst xs))) (fun F S H xs vs d S' Q hk R rl hp hq => by
    obtain ⟨h1, h2⟩ := of_ite hp
    cases h2
    exact ⟨by rw [← rl.length]; exact h1, new_lstM R rl hq⟩) hk R rr hf hq

/-! ### statements -/
variable {st : Stmt} {sts : List Stmt}
def dNext : DS := fun ρ S => some (.nx ρ S)
def dSeq (f g : DS) : DS := fun ρ S => match f ρ S with
  | some (.nx ρ' S') => g ρ' S'
  | o => o
theorem sds_nil : SDs X [] dNext := .of pss_nil fun F S H ρ σ o D hk R rr hf hq => by
  cases (show some (Out.nx ρ S) = some o from hf)
  exact hq F H (.refl F) R σ rr
theorem seq_go {f g : DS} {F : Fm} {S : Sto} {H : Hp} {ρ : Ev} {σ : St} {o : Out} {D : Ends} {K : PySem.W.Frag} (hk : F.K = K) (R : Rep F S H) (rr : RelE F ρ σ) (hf : dSeq f g ρ S = some o) (hq : PostS F o D) : tSeq (rdS K f) (rdS K g) D σ H := by
  unfold dSeq at hf
  split at hf
  · rename_i ρ' S' h1
    exact ⟨F, S, ρ, _, hk, R, rr, h1, fun F' H' le R' σ' r' => ⟨F', S', ρ', o, le.k.trans hk, R', r', hf, hq.le le⟩⟩
  · rename_i h1
    refine ⟨F, S, ρ, o, hk, R, rr, hf, fun F' H' le R' => ?_⟩
    have := hq F' H' le R'
    cases o with
    | nx ρ' S' => exact absurd hf (h1 ρ' S')
    | rt d S' => exact this
    | bk ρ' S' => exact this
    | ct ρ' S' => exact this
theorem sds_cons {f g : DS} (h : SD X st f) (hr : SDs X sts g) : SDs X (st :: sts) (dSeq f g) :=
  .of (pss_cons h.ps hr.ps) fun F S H ρ σ o D hk R rr hf hq => seq_go hk R rr hf hq
theorem sds_one {f : DS} (h : SD X st f) : SDs X [st] f := ⟨pss_one h.ps⟩
def dBreak : DS := fun ρ S => some (.bk ρ S)
def dCont : DS := fun ρ S => some (.ct ρ S)
def dExpr (f : DE) : DS := fun ρ S => match f ρ S with
  | some (_, S') => some (.nx ρ S')
  | none => none
theorem sd_expr (h : ED X e f) (hs : swapsWith e none pos.line X.env = pure false := by rfl) : SD X (.Expr e pos) (dExpr f) :=
  .of (ps_expr h.pe hs) fun F S H ρ σ o D hk R rr hf hq => by
    unfold dExpr at hf
    split at hf
    · rename_i d S' h1
      cases hf
      exact rdE.go hk R rr h1 fun F1 H1 v le hk1 R1 r1 rv => hq F1 H1 le R1 σ r1
    · cases hf
def dRet (f : DE) : DS := fun ρ S => match f ρ S with
  | some (d, S') => some (.rt d S')
  | none => none
theorem sd_ret (h : ED X e f) : SD X (.Return (some e) pos) (dRet f) :=
  .of (ps_ret h.pe) fun F S H ρ σ o D hk R rr hf hq => by
    unfold dRet at hf
    split at hf
    · rename_i d S' h1
      cases hf
      exact rdE.go hk R rr h1 fun F1 H1 v le hk1 R1 r1 rv => hq F1 H1 le R1 v rv
    · cases hf
def dRetN : DS := fun _ S => some (.rt .non S)
def dIfS (c : DE) (f g : DS) : DS := fun ρ S => match c ρ S with
  | some (.bl true, S1) => f ρ S1
  | some (.bl false, S1) => g ρ S1
  | _ => none
theorem dIfS_some {c : DE} {f g : DS} {ρ : Ev} {S : Sto} {z : Out} (h : dIfS c f g ρ S = some z) : (∃ S1, c ρ S = some (.bl true, S1) ∧ f ρ S1 = some z) ∨ (∃ S1, c ρ S = some (.bl false, S1) ∧ g ρ S1 = some z) := by
  unfold dIfS at h
  split at h
  · exact .inl ⟨_, by assumption, h⟩
  · exact .inr ⟨_, by assumption, h⟩
  · cases h
theorem rdS.go {f : DS} {F : Fm} {S : Sto} {H : Hp} {ρ : Ev} {σ : St} {o : Out} {D : Ends} {K : PySem.W.Frag} (hk : F.K = K) (R : Rep F S H) (rr : RelE F ρ σ) (hf : f ρ S = some o) (hq : PostS F o D) : rdS K f D σ H := ⟨F, S, ρ, o, hk, R, rr, hf, hq⟩
theorem sd_if {c : Expr} {ss ts : List Stmt} {hc : DE} {f g : DS} (h1 : TD X c hc) (h2 : SDs X ss f) (h3 : SDs X ts g) : SD X (.If c ss ts pos) (dIfS hc f g) :=
  .of (ps_if h1.pt h2.ps h3.ps) fun F S H ρ σ o D hk R rr hf hq => by
    rcases dIfS_some hf with ⟨S1, h1, h2⟩ | ⟨S1, h1, h2⟩
    · refine rdT.go hk R rr h1 fun F1 H1 le hk1 R1 r1 => ?_
      rw [if_pos rfl]
      exact rdS.go hk1 R1 r1 h2 (hq.le le)
    · refine rdT.go hk R rr h1 fun F1 H1 le hk1 R1 r1 => ?_
      rw [if_neg Bool.false_ne_true]
      exact rdS.go hk1 R1 r1 h2 (hq.le le)

/-! ### targets -/
def gSet (i : Nat) : DG := fun d ρ S => some (ρ.set i (some d), S)
theorem gd_name {i : Nat} (h : PG X e (gName i)) : GD X e (gSet i) := .of h fun F S H ρ σ d v ρ' S' Q hk R rr rv hf hq => by
  cases (show some (ρ.set i (some d), S) = some (ρ', S') from hf)
  exact hq F H _ (.refl F) R (rr.set i rv)
abbrev DGs := List DV → Ev → Sto → Option (Ev × Sto)
def rdGs (K : PySem.W.Frag) (g : DGs) : TGs := fun vs σ H Q => ∃ F S ρ ds ρ' S', F.K = K ∧ Rep F S H ∧ RelE F ρ σ ∧ RelL F ds vs ∧ g ds ρ S = some (ρ', S') ∧ ∀ F' H' σ', Le F F' → Rep F' S' H' → RelE F' ρ' σ' → Q σ' H'
structure GDs (X : Cx) (es : List Expr) (g : DGs) : Prop where
  pg : PGs X es (rdGs X.K g)
theorem GDs.of {es : List Expr} {t : TGs} {g : DGs} (h : PGs X es t) (m : ∀ F S H ρ σ d v ρ' S' Q, F.K = X.K → Rep F S H → RelE F ρ σ → RelL F d v → g d ρ S = some (ρ', S') → (∀ F' H' σ', Le F F' → Rep F' S' H' → RelE F' ρ' σ' → Q σ' H') → t v σ H Q) : GDs X es g :=
  ⟨⟨fun pins s σ H v u Q I rv ⟨F, S, ρ, d, ρ', S', hk, R, r, rd, hf, hq⟩ => h.run pins s σ H v u Q I rv (m F S H ρ σ d v ρ' S' Q hk R r rd hf hq)⟩⟩
def gsNil : DGs := fun ds ρ S => match ds with
  | [] => some (ρ, S)
  | _ => none
def gsCons (g : DG) (h : DGs) : DGs := fun ds ρ S => match ds with
  | d :: r => (match g d ρ S with
    | some (ρ', S') => h r ρ' S'
    | none => none)
  | [] => none
theorem gds_nil : GDs X [] gsNil := .of pgs_nil fun F S H ρ σ d v ρ' S' Q hk R rr rv hf hq => by
  unfold gsNil at hf
  split at hf
  · cases hf
    exact ⟨rv.nil, hq F H σ (.refl F) R rr⟩
  · cases hf
theorem gds_cons {es : List Expr} {g : DG} {h : DGs} {t : TG} {u : TGs} (h1 : GD X e g) (h2 : GDs X es h) (hp : PGs X (e :: es) (gCons (rdG X.K g) (rdGs X.K h))) : GDs X (e :: es) (gsCons g h) :=
  .of hp fun F S H ρ σ d v ρ' S' Q hk R rr rv hf hq => by
    unfold gsCons at hf
    split at hf
    · rename_i d0 r
      obtain ⟨x, vr, rfl, rx, rl⟩ := rv
      split at hf
      · rename_i ρ1 S1 h1
        exact ⟨x, vr, rfl, F, S, ρ, d0, ρ1, S1, hk, R, rr, rx, h1, fun F1 H1 σ1 le R1 r1 => ⟨F1, S1, ρ1, r, ρ', S', le.k.trans hk, R1, r1, rl.le le, hf, fun F2 H2 σ2 le2 => hq F2 H2 σ2 (le.trans le2)⟩⟩
      · cases hf
    · cases hf
def gTupD (n : Nat) (h : DGs) : DG := fun d ρ S => match d with
  | .tup ds => if ds.length = n then h ds ρ S else none
  | _ => none
theorem gd_tup {n : Nat} {es : List Expr} {h : DGs} (h2 : GDs X es h) (hp : PG X e (gTup X.K n (rdGs X.K h))) : GD X e (gTupD n h) :=
  .of hp fun F S H ρ σ d v ρ' S' Q hk R rr rv hf hq => by
    unfold gTupD at hf
    split at hf
    · rename_i ds
      obtain ⟨hn, hf⟩ := of_ite hf
      obtain ⟨a, xs, rfl, hs, rl⟩ := rv
      exact ⟨a, xs, rfl, SqT.of (R.g _ _ hs), by rw [← rl.length]; exact hn, F, S, ρ, ds, ρ', S', hk, R, rr, rl, hf, hq⟩
    · cases hf
def dAsg (f : DE) (g : DG) : DS := fun ρ S => match f ρ S with
  | some (d, S1) => (match g d ρ S1 with
    | some (ρ', S2) => some (.nx ρ' S2)
    | none => none)
  | none => none
theorem asg_go {g : DG} {F : Fm} {S : Sto} {H : Hp} {ρ : Ev} {σ : St} {o : Out} {D : Ends} {K : PySem.W.Frag} (hk : F.K = K) (R : Rep F S H) (rr : RelE F ρ σ) (hf : dAsg f g ρ S = some o) (hq : PostS F o D) : tAsg (rdE K f) (rdG K g) D σ H := by
  unfold dAsg at hf
  split at hf
  · rename_i d S1 h1
    split at hf
    · rename_i ρ' S2 h2
      cases hf
      exact rdE.go hk R rr h1 fun F1 H1 v le hk1 R1 r1 rv => ⟨F1, S1, ρ, d, ρ', S2, hk1, R1, r1, rv, h2, fun F2 H2 σ2 le2 R2 r2 => hq F2 H2 (le.trans le2) R2 σ2 r2⟩
    · cases hf
  · cases hf
theorem sd_asg {g : DG} (h : PS X st (tAsg (rdE X.K f) (rdG X.K g))) : SD X st (dAsg f g) := .of h fun F S H ρ σ o D hk R rr hf hq => asg_go hk R rr hf hq
def dSet (i : Nat) (f : DE) : DS := fun ρ S => match f ρ S with
  | some (d, S1) => some (.nx (ρ.set i (some d)) S1)
  | none => none
theorem sd_set {i : Nat} (h : PS X st (tAsg (rdE X.K f) (gName i))) : SD X st (dSet i f) := .of h fun F S H ρ σ o D hk R rr hf hq => by
  unfold dSet at hf
  split at hf
  · rename_i d S1 h1
    cases hf
    exact rdE.go hk R rr h1 fun F1 H1 v le hk1 R1 r1 rv => hq F1 H1 le R1 _ (r1.set i rv)
  · cases hf

/-! ### loops -/
abbrev DI := Ev → Sto → Option (List DV × Sto)
def Walks (J : It) (F0 : Fm) (ds : List DV) : Prop := ∀ (i : Nat) F S H, Wk F0 F → PF F0 F → Rep F S H → (i = ds.length → J.stop i H) ∧ ∀ d, ds[i]? = some d → J.go i H ∧ ∀ x H', J.yld i H x H' → ∃ F', Le F F' ∧ Rep F' S H' ∧ Rel F' d x
def rdI (K : PySem.W.Frag) (f : DI) : TI := fun σ H R => ∃ F S ρ ds S', F.K = K ∧ Rep F S H ∧ RelE F ρ σ ∧ f ρ S = some (ds, S') ∧ ∀ J F' H', Le F F' → Rep F' S' H' → Walks J F' ds → R J H'
structure ID (X : Cx) (tg iter : Expr) (f : DI) : Prop where
  pi : PI X tg iter (rdI X.K f)
theorem ID.of {tg : Expr} {t : TI} {f : DI} (h : PI X tg e t) (m : ∀ F S H ρ σ ds S' Q, F.K = X.K → Rep F S H → RelE F ρ σ → f ρ S = some (ds, S') → (∀ J F' H', Le F F' → Rep F' S' H' → Walks J F' ds → Q J H') → t σ H Q) : ID X tg e f :=
  ⟨⟨fun pins s σ H Q I ⟨F, S, ρ, d, S', hk, R, r, hf, hq⟩ => h.run pins s σ H Q I (m F S H ρ σ d S' Q hk R r hf hq)⟩⟩
def forL (g : DG) (body : DS) : List DV → DS
  | [] => fun ρ S => some (.nx ρ S)
  | d :: ds => fun ρ S => match g d ρ S with
    | some (ρ1, S1) => (match body ρ1 S1 with
      | some (.nx ρ2 S2) => forL g body ds ρ2 S2
      | some (.ct ρ2 S2) => forL g body ds ρ2 S2
      | some (.bk ρ2 S2) => some (.nx ρ2 S2)
      | some (.rt v S2) => some (.rt v S2)
      | none => none)
    | none => none
def dFor (it : DI) (g : DG) (body : DS) : DS := fun ρ S => match it ρ S with
  | some (ds, S1) => forL g body ds ρ S1
  | none => none
theorem for_go {it : DI} {g : DG} {body : DS} {F : Fm} {S : Sto} {H : Hp} {ρ : Ev} {σ : St} {o : Out} {D : Ends} {K : PySem.W.Frag} (hk : F.K = K) (R : Rep F S H) (rr : RelE F ρ σ) (hf : dFor it g body ρ S = some o) (hq : PostS F o D) : tFor (rdI K it) (rdG K g) (rdS K body) D σ H := by
  unfold dFor at hf
  split at hf
  · rename_i ds S1 h1
    refine ⟨F, S, ρ, ds, S1, hk, R, rr, h1, fun J F1 H1 le1 R1 wk => ?_⟩
    refine ⟨fun i m σ H => i ≤ ds.length ∧ m = ds.length - i ∧ ∃ F' S' ρ', Le F1 F' ∧ Rep F' S' H ∧ RelE F' ρ' σ ∧ forL g body (ds.drop i) ρ' S' = some o, ⟨ds.length, Nat.zero_le _, rfl, F1, S1, ρ, .refl F1, R1, rr.le le1, by rw [List.drop_zero]; exact hf⟩, ?_⟩
    rintro i m σ H ⟨hi, rfl, F', S', ρ', le', R', r', hf'⟩
    obtain ⟨w1, w2⟩ := wk i F' S' H le'.wk le'.pf R'
    by_cases hlt : i < ds.length
    · refine .inr ?_
      have hd : ds[i]? = some ds[i] := List.getElem?_eq_getElem hlt
      obtain ⟨g1, g2⟩ := w2 _ hd
      rw [List.drop_eq_getElem_cons hlt] at hf'
      unfold forL at hf'
      refine ⟨g1, fun σ' H' => ∃ m', m' < ds.length - i ∧ (i + 1 ≤ ds.length ∧ m' = ds.length - (i + 1) ∧ ∃ F' S' ρ', Le F1 F' ∧ Rep F' S' H' ∧ RelE F' ρ' σ' ∧ forL g body (ds.drop (i + 1)) ρ' S' = some o), fun _ _ z => z, fun x H2 y => ?_⟩
      obtain ⟨F2, le2, R2, rx⟩ := g2 x H2 y
      split at hf'
      · rename_i ρ1 S3 hg
        refine ⟨F2, S', ρ', _, ρ1, S3, le2.k.trans (le'.k.trans (le1.k.trans hk)), R2, r'.le le2, rx, hg, fun F3 H3 σ3 le3 R3 r3 => ?_⟩
        have le03 : Le F1 F3 := (le'.trans le2).trans le3
        split at hf'
        · rename_i ρ2 S2 hb
          exact rdS.go (le3.k.trans (le2.k.trans (le'.k.trans (le1.k.trans hk)))) R3 r3 hb fun F4 H4 le4 R4 σ4 r4 => ⟨_, by omega, hlt, rfl, F4, S2, ρ2, le03.trans le4, R4, r4, hf'⟩
        · rename_i ρ2 S2 hb
          exact rdS.go (le3.k.trans (le2.k.trans (le'.k.trans (le1.k.trans hk)))) R3 r3 hb fun F4 H4 le4 R4 σ4 r4 => ⟨_, by omega, hlt, rfl, F4, S2, ρ2, le03.trans le4, R4, r4, hf'⟩
        · rename_i ρ2 S2 hb
          cases hf'
          exact rdS.go (le3.k.trans (le2.k.trans (le'.k.trans (le1.k.trans hk)))) R3 r3 hb fun F4 H4 le4 R4 σ4 r4 => hq F4 H4 (le1.trans (le03.trans le4)) R4 σ4 r4
        · rename_i v S2 hb
          cases hf'
          exact rdS.go (le3.k.trans (le2.k.trans (le'.k.trans (le1.k.trans hk)))) R3 r3 hb fun F4 H4 le4 R4 v rv => hq F4 H4 (le1.trans (le03.trans le4)) R4 v rv
        · cases hf'
      · cases hf'
    · have e : i = ds.length := by omega
      subst e
      rw [List.drop_length] at hf'
      cases (show some (Out.nx ρ' S') = some o from hf')
      exact .inl ⟨w1 rfl, hq F' H (le1.trans le') R' σ r'⟩
  · cases hf
theorem sd_for {it : DI} {g : DG} {body : DS} (h : PS X st (tFor (rdI X.K it) (rdG X.K g) (rdS X.K body))) : SD X st (dFor it g body) := .of h fun F S H ρ σ o D hk R rr hf hq => for_go hk R rr hf hq
def whileL (c : DE) (body : DS) : Nat → DS
  | 0 => fun _ _ => none
  | n + 1 => fun ρ S => match c ρ S with
    | some (.bl true, S1) => (match body ρ S1 with
      | some (.nx ρ2 S2) => whileL c body n ρ2 S2
      | some (.ct ρ2 S2) => whileL c body n ρ2 S2
      | some (.bk ρ2 S2) => some (.nx ρ2 S2)
      | some (.rt v S2) => some (.rt v S2)
      | none => none)
    | some (.bl false, S1) => some (.nx ρ S1)
    | _ => none
theorem while_go {c : DE} {body : DS} {n : Nat} {F : Fm} {S : Sto} {H : Hp} {ρ : Ev} {σ : St} {o : Out} {D : Ends} {K : PySem.W.Frag} (hk : F.K = K) (R : Rep F S H) (rr : RelE F ρ σ) (hf : whileL c body n ρ S = some o) (hq : PostS F o D) : tWhile (rdT K c) (rdS K body) D σ H := by
  refine ⟨fun m σ H => ∃ F' S' ρ', Le F F' ∧ Rep F' S' H ∧ RelE F' ρ' σ ∧ whileL c body m ρ' S' = some o, ⟨n, F, S, ρ, .refl F, R, rr, hf⟩, ?_⟩
  rintro m σ H ⟨F', S', ρ', le', R', r', hf'⟩
  cases m with
  | zero => cases hf'
  | succ m =>
    unfold whileL at hf'
    split at hf'
    · rename_i S1 h1
      refine rdT.go (le'.k.trans hk) R' r' h1 fun F1 H1 le1 hk1 R1 r1 => ?_
      rw [if_pos rfl]
      refine ⟨fun σ' H' => ∃ m', m' < m + 1 ∧ ∃ F' S' ρ', Le F F' ∧ Rep F' S' H' ∧ RelE F' ρ' σ' ∧ whileL c body m' ρ' S' = some o, fun _ _ z => z, ?_⟩
      split at hf'
      · rename_i ρ2 S2 hb
        exact rdS.go hk1 R1 r1 hb fun F4 H4 le4 R4 σ4 r4 => ⟨m, Nat.lt_succ_self _, F4, S2, ρ2, (le'.trans le1).trans le4, R4, r4, hf'⟩
      · rename_i ρ2 S2 hb
        exact rdS.go hk1 R1 r1 hb fun F4 H4 le4 R4 σ4 r4 => ⟨m, Nat.lt_succ_self _, F4, S2, ρ2, (le'.trans le1).trans le4, R4, r4, hf'⟩
      · rename_i ρ2 S2 hb
        cases hf'
        exact rdS.go hk1 R1 r1 hb fun F4 H4 le4 R4 σ4 r4 => hq F4 H4 ((le'.trans le1).trans le4) R4 σ4 r4
      · rename_i v S2 hb
        cases hf'
        exact rdS.go hk1 R1 r1 hb fun F4 H4 le4 R4 v rv => hq F4 H4 ((le'.trans le1).trans le4) R4 v rv
      · cases hf'
    · rename_i S1 h1
      cases hf'
      refine rdT.go (le'.k.trans hk) R' r' h1 fun F1 H1 le1 hk1 R1 r1 => ?_
      rw [if_neg Bool.false_ne_true]
      exact hq F1 H1 (le'.trans le1) R1 σ r1
    · cases hf'
theorem sd_while {c : DE} {body : DS} (n : Nat) (h : PS X st (tWhile (rdT X.K c) (rdS X.K body))) : SD X st (whileL c body n) := .of h fun F S H ρ σ o D hk R rr hf hq => while_go hk R rr hf hq
end
end Dn

namespace Dn
open PySem PySem.Spec PyProof.Rows L2

/-! ### copies: cells to values -/
mutual
def mapD (bor : Bool) (h : Nat → Option DV) : DV → Option DV
  | .loc n => h n
  | .tup ds => match mapDL bor h ds with
    | some es => some (.tup es)
    | none => none
  | .tupx ds => match mapDL bor h ds with
    | some es => some (.tupx es)
    | none => none
  | .lst k ds => if k = .bor ∧ bor = false then none else match mapDL bor h ds with
    | some es => some (.lst k es)
    | none => none
  | .dik k ks ds => if k ≠ .own ∧ bor = false then none else match mapDL bor h ds with
    | some es => some (.dik k ks es)
    | none => none
  | .dit k ks ds => if k ≠ .own ∧ bor = false then none else match mapDL bor h ds with
    | some es => some (.dit k ks es)
    | none => none
  | .non => some .non
  | .bl b => some (.bl b)
  | .int i => some (.int i)
  | .str s => some (.str s)
def mapDL (bor : Bool) (h : Nat → Option DV) : List DV → Option (List DV)
  | [] => some []
  | d :: ds => match mapD bor h d with
    | some e => (match mapDL bor h ds with
      | some es => some (e :: es)
      | none => none)
    | none => none
end
def bk (bor : Bool) : LK := if bor then .bor else .own
def cpN (bor : Bool) : Nat → Sto → Nat → Option DV
  | 0, _, _ => none
  | k + 1, S, n => match S[n]? with
    | some (.lst ds) => (match mapDL bor (cpN bor k S) ds with
      | some es => some (.lst (bk bor) es)
      | none => none)
    | some (.dik ks ds) => (match mapDL bor (cpN bor k S) ds with
      | some es => some (.dik (bk bor) ks es)
      | none => none)
    | some (.dit ks ds) => (match mapDL bor (cpN bor k S) ds with
      | some es => some (.dit (bk bor) ks es)
      | none => none)
    | some (.frz d) => mapD bor (cpN bor k S) d
    | _ => none
/-- as a value: borrowed (bor), or frozen -/
def cpD (bor : Bool) (S : Sto) (d : DV) : Option DV := mapD bor (cpN bor (S.length + 1) S) d
def cpL (bor : Bool) (S : Sto) (ds : List DV) : Option (List DV) := mapDL bor (cpN bor (S.length + 1) S) ds

structure CpTo (bor : Bool) (F F2 : Fm) : Prop where
  k : F2.K = F.K
  g : Same F.G F2.G
  b : bor = true → Same F.B F2.B
mutual
theorem mapD_rel {bor : Bool} {h : Nat → Option DV} {F F2 : Fm} (c : CpTo bor F F2) (hh : ∀ n d a, h n = some d → F.lm[n]? = some a → Rel F2 d (.ref a)) : ∀ (d d' : DV) (v : V), mapD bor h d = some d' → Rel F d v → Rel F2 d' v
  | .loc n, d', v, e, r => by
    obtain ⟨a, h1, rfl⟩ := r
    exact hh n d' a e h1
  | .tup ds, d', v, e, r => by
    obtain ⟨a, xs, rfl, hs, hl⟩ := r
    unfold mapD at e
    split at e
    · rename_i es he
      cases e
      exact ⟨a, xs, rfl, c.g _ _ hs, mapDL_rel c hh ds es xs he hl⟩
    · cases e
  | .tupx ds, d', v, e, r => by
    obtain ⟨a, xs, rfl, hs, hl⟩ := r
    unfold mapD at e
    split at e
    · rename_i es he
      cases e
      exact ⟨a, xs, rfl, by rw [c.k]; exact sqT_same c.g hs, mapDL_rel c hh ds es xs he hl⟩
    · cases e
  | .lst k ds, d', v, e, r => by
    unfold mapD at e
    split at e
    · cases e
    · rename_i hn
      split at e
      · rename_i es he
        cases e
        cases k with
        | own =>
          obtain ⟨a, xs, rfl, hs, hl⟩ := r
          exact ⟨a, xs, rfl, c.g _ _ hs, mapDL_rel c hh ds es xs he hl⟩
        | bor =>
          obtain ⟨a, xs, rfl, hs, hl⟩ := r
          have hb : bor = true := by
            cases bor with
            | true => rfl
            | false => exact absurd ⟨rfl, rfl⟩ hn
          exact ⟨a, xs, rfl, hs.elim (fun h => .inl (c.b hb _ _ h)) fun h => .inr (c.g _ _ h), mapDL_rel c hh ds es xs he hl⟩
        | ext =>
          obtain ⟨a, xs, rfl, hs, hl⟩ := r
          exact ⟨a, xs, rfl, by rw [c.k]; exact sqL_same c.g hs, mapDL_rel c hh ds es xs he hl⟩
      · cases e
  | .dik k ks ds, d', v, e, r => by
    unfold mapD at e
    split at e
    · cases e
    · rename_i hn
      split at e
      · rename_i es he
        cases e
        obtain ⟨a, xs, rfl, hz, hs, hl⟩ := r
        have hl2 := mapDL_rel c hh ds es xs he hl
        refine ⟨a, xs, rfl, hz.trans (hl.length.trans hl2.length.symm), hs.elim (fun h => .inl (c.g _ _ h)) fun h => .inr ⟨h.1, c.b ?_ _ _ h.2⟩, hl2⟩
        cases bor with
        | true => rfl
        | false => exact absurd ⟨h.1, rfl⟩ hn
      · cases e
  | .dit k ks ds, d', v, e, r => by
    unfold mapD at e
    split at e
    · cases e
    · rename_i hn
      split at e
      · rename_i es he
        cases e
        obtain ⟨a, xs, rfl, hz, hs, hl⟩ := r
        have hl2 := mapDL_rel c hh ds es xs he hl
        refine ⟨a, xs, rfl, hz.trans (hl.length.trans hl2.length.symm), hs.elim (fun h => .inl (c.g _ _ h)) fun h => .inr ⟨h.1, c.b ?_ _ _ h.2⟩, hl2⟩
        cases bor with
        | true => rfl
        | false => exact absurd ⟨h.1, rfl⟩ hn
      · cases e
  | .non, d', v, e, r => by
    cases (show some DV.non = some d' from e)
    exact r
  | .bl b, d', v, e, r => by
    cases (show some (DV.bl b) = some d' from e)
    exact r
  | .int b, d', v, e, r => by
    cases (show some (DV.int b) = some d' from e)
    exact r
  | .str b, d', v, e, r => by
    cases (show some (DV.str b) = some d' from e)
    exact r
theorem mapDL_rel {bor : Bool} {h : Nat → Option DV} {F F2 : Fm} (c : CpTo bor F F2) (hh : ∀ n d a, h n = some d → F.lm[n]? = some a → Rel F2 d (.ref a)) : ∀ (ds es : List DV) (vs : List V), mapDL bor h ds = some es → RelL F ds vs → RelL F2 es vs
  | [], es, vs, e, r => by
    cases (show some ([] : List DV) = some es from e)
    exact r
  | d :: ds, es, vs, e, r => by
    obtain ⟨x, xr, rfl, h1, h2⟩ := r
    unfold mapDL at e
    split at e
    · rename_i e1 he1
      split at e
      · rename_i es1 hes1
        cases e
        exact ⟨x, xr, rfl, mapD_rel c hh d e1 x he1 h1, mapDL_rel c hh ds es1 xr hes1 h2⟩
      · cases e
    · cases e
end
theorem cpN_rel {bor : Bool} {F F2 : Fm} {S : Sto} {H : Hp} (c : CpTo bor F F2) (R : Rep F S H)
    (hl : ∀ (n : Nat) (c : Cell) (a : Addr) (o : HO), S[n]? = some c → c.live = true → F.lm[n]? = some a → H a = some o → if bor then F2.B a = some o else F2.G a = some o) :
    ∀ (k n : Nat) (d : DV) (a : Addr), cpN bor k S n = some d → F.lm[n]? = some a → Rel F2 d (.ref a)
  | 0, n, d, a, e, _ => by cases e
  | k + 1, n, d, a, e, ha => by
    have ih := cpN_rel c R hl k
    unfold cpN at e
    split at e
    · rename_i ds hc
      obtain ⟨⟨xs, e2, hr⟩, _⟩ := R.cell n _ a hc ha
      have q := hl n _ a _ hc rfl ha e2
      split at e
      · rename_i es he
        cases e
        have hl2 := mapDL_rel c ih ds es xs he hr
        cases bor with
        | true => exact ⟨a, xs, rfl, .inl q, hl2⟩
        | false => exact ⟨a, xs, rfl, q, hl2⟩
      · cases e
    · rename_i ks ds hc
      obtain ⟨⟨xs, hz, e2, hr⟩, _⟩ := R.cell n _ a hc ha
      have q := hl n _ a _ hc rfl ha e2
      split at e
      · rename_i es he
        cases e
        have hl2 := mapDL_rel c ih ds es xs he hr
        have hz2 := hz.trans (hr.length.trans hl2.length.symm)
        cases bor with
        | true => exact ⟨a, xs, rfl, hz2, .inr ⟨(fun z => nomatch z), q⟩, hl2⟩
        | false => exact ⟨a, xs, rfl, hz2, .inl q, hl2⟩
      · cases e
    · rename_i ks ds hc
      obtain ⟨⟨xs, hz, e2, hr⟩, _⟩ := R.cell n _ a hc ha
      have q := hl n _ a _ hc rfl ha e2
      split at e
      · rename_i es he
        cases e
        have hl2 := mapDL_rel c ih ds es xs he hr
        have hz2 := hz.trans (hr.length.trans hl2.length.symm)
        cases bor with
        | true => exact ⟨a, xs, rfl, hz2, .inr ⟨(fun z => nomatch z), q⟩, hl2⟩
        | false => exact ⟨a, xs, rfl, hz2, .inl q, hl2⟩
      · cases e
    · rename_i d0 hc
      obtain ⟨hr, _⟩ := R.cell n _ a hc ha
      exact mapD_rel c ih d0 d (.ref a) e hr
    · cases e
/-- all arguments as borrowed values -/
theorem cpL_bor {F : Fm} {S : Sto} {H : Hp} (R : Rep F S H) {ds es : List DV} {vs : List V} (e : cpL true S ds = some es) (r : RelL F ds vs) : RelL ⟨F.K, F.G, H, fun _ => none, []⟩ es vs :=
  have c : CpTo true F ⟨F.K, F.G, H, fun _ => none, []⟩ := ⟨rfl, Same.refl _, fun _ => R.b⟩
  mapDL_rel c (cpN_rel c R (fun n c a o h l e1 e2 => by rw [if_pos rfl]; exact e2) _) ds es vs e r
theorem rep_empty {F : Fm} {S : Sto} {H : Hp} (R : Rep F S H) : Rep ⟨F.K, F.G, H, fun _ => none, []⟩ [] H :=
  ⟨R.g, Same.refl _, (fun _ _ q => nomatch q), R.tup, rfl, fun n c a h _ => by simp at h, fun n m c c' a h => by simp at h⟩

/-! ### defs -/
def runF (np n : Nat) (body : DS) : PL := fun ds S => if ds.length = np then (match body (ds.map some ++ List.replicate (n - ds.length) none) S with
  | some (.rt d S') => some (d, S')
  | some (.nx _ S') => some (.non, S')
  | _ => none) else none
def spS (K : PySem.W.Frag) (np : Nat) (f : PL) : Sp := fun vs H Q _ => ∃ F S ds d S', F.K = K ∧ Rep F S H ∧ RelL F ds vs ∧ ds.length = np ∧ f ds S = some (d, S') ∧ PostE F S' d Q
theorem relE_start {F : Fm} {ds : List DV} {vs : List V} (r : RelL F ds vs) (N : List Str) : RelE F (ds.map some ++ List.replicate (N.length - ds.length) none) (L2.start N vs) := by
  have hl := r.length
  refine ⟨by unfold L2.start; simp [hl], fun i d e => ?_⟩
  unfold L2.start
  by_cases q : i < ds.length
  · rw [List.getElem?_append_left (by simpa using q)] at e
    rw [List.getElem?_append_left (by simp; omega)]
    rw [List.getElem?_map] at e
    cases e2 : ds[i]? with
    | none =>
      rw [e2] at e
      cases e
    | some d2 =>
      rw [e2] at e
      have e3 : d2 = d := Option.some.inj (Option.some.inj e)
      subst e3
      obtain ⟨v, e4, e5⟩ := r.get e2
      exact ⟨v, by rw [List.getElem?_map, e4] <;> rfl, e5⟩
  · rw [List.getElem?_append_right (by simp; omega)] at e
    have := List.getElem?_eq_some_iff.mp e
    obtain ⟨h1, h2⟩ := this
    rw [List.getElem_replicate] at h2
    cases h2
section
variable {P : Program} {w : World} {K : PySem.W.Frag} {mg : Str → Option Value} {base : Heap} {x qual : Str} {params : Arguments} {body : List Stmt} {scope : Scope} {dvs : List V} {kws : List (Str × V)} {f : Addr} {fd : FuncData}
/-- a def whose body is known as a denotation -/
theorem fn_ok {N ps : List Str} {k : Nat} {b : DS} (F : FunD K x qual params body scope dvs kws f fd) (S : FnScope N ps scope)
    (hb : ∀ (cdv : Value) (A : Around) (outer : List Env) (s : Shared) (H : Hp) (E : XK), Room k (A.deeper (envOfC qual scope s.heap.objs.size f cdv)) → SDs (cxOf CX0 P w K mg base N qual scope f cdv A outer s H E).nox body b) :
    FnOk P w K mg base CX0 (k + 1) f fd ps (spS K ps.length (runF ps.length N.length b)) := by
  refine F.ok S (fun vs H Q E h => ?_) (fun cdv A outer s H vs Q E hr h => ?_)
  · obtain ⟨F, S, ds, d, S', hk, R, r, hn, _⟩ := h
    rw [← r.length, hn]
  · refine ⟨_, (hb cdv A outer s H E hr).ps.nox, ?_⟩
    obtain ⟨F, S, ds, d, S', hk, R, r, hn, e, hq⟩ := h
    unfold runF at e
    rw [if_pos hn] at e
    split at e
    · rename_i d' S2 h1
      cases e
      exact ⟨F, S, _, _, hk, R, relE_start r N, h1, fun F' H' le R' v rv => hq F' H' v le R' rv⟩
    · rename_i ρ' S2 h1
      cases e
      exact ⟨F, S, _, _, hk, R, relE_start r N, h1, fun F' H' le R' σ' _ => hq F' H' .non le R' rfl⟩
    · cases e
end

/-! ### calls -/
/-- a call that shares the store -/
def cS (f : PL) (dds : List DV) : PL := fun xs S => f (xs ++ dds) S
theorem ok_cS {K : PySem.W.Frag} {np : Nat} {f : PL} {dds : List DV} {dvs : List V} {E : XK} (hd : ∀ F : Fm, RelL F dds dvs) (hn : ∀ xs S z, f xs S = some z → xs.length = np) : OkL K (cS f dds) (fun vs H Q => spS K np f (vs ++ dvs) H Q E) :=
  fun F S H xs vs d S' Q hk R r hp hq => ⟨F, S, xs ++ dds, d, S', hk, R, r.append (hd F), hn _ _ _ hp, hp, hq⟩
theorem runF_len {np n : Nat} {b : DS} : ∀ xs S z, runF np n b xs S = some z → xs.length = np := fun xs S z h => by
  unfold runF at h
  exact (of_ite h).1
/-- a call with a store of its own: a function of the arguments' values -/
def pureOf (f : PL) : List DV → Option DV := fun ds => match f ds [] with
  | some (d, S') => cpD false S' d
  | none => none
def cP (p : List DV → Option DV) (dds : List DV) : PL := fun xs S => match cpL true S (xs ++ dds) with
  | some ys => (match p ys with
    | some d => some (d, S)
    | none => none)
  | none => none
/-- behind a call with a store of its own: all new objects are frozen -/
def newG (G H H' : Hp) : Hp := fun a => match G a with
  | some o => some o
  | none => if H a = none then H' a else none
theorem newG_same {G H H' : Hp} : Same G (newG G H H') := fun a o e => by
  unfold newG
  rw [e]
theorem after_pure {F Fc : Fm} {S S' : Sto} {H H' : Hp} (R : Rep F S H) (le : Le ⟨F.K, F.G, H, fun _ => none, []⟩ Fc) (R' : Rep Fc S' H') {ex : Addr → Prop} [DecidablePred ex] (hex : ∀ a, ex a → Fc.G a = none ∧ H a = none) (hexT : ∀ a xs, ex a → H' a ≠ some (.tup xs)) :
    Rep { F with G := fun a => if ex a then none else newG Fc.G H H' a } S H' ∧ Le F { F with G := fun a => if ex a then none else newG Fc.G H H' a } := by
  have hB : Fc.B = H := le.b
  have sHH : Same H H' := by
    have := R'.b
    rw [hB] at this
    exact this
  have sG : Same F.G (fun a => if ex a then none else newG Fc.G H H' a) := fun a o e => by
    have e1 : Fc.G a = some o := le.g _ _ e
    by_cases q : ex a
    · rw [(hex a q).1] at e1
      cases e1
    · show (if ex a then none else newG Fc.G H H' a) = some o
      rw [if_neg q]
      exact newG_same _ _ e1
  have at_ : ∀ a o, (if ex a then none else newG Fc.G H H' a) = some o → (Fc.G a = some o ∨ (H a = none ∧ H' a = some o)) := fun a o e => by
    by_cases q : ex a
    · rw [if_pos q] at e
      cases e
    · rw [if_neg q] at e
      unfold newG at e
      split at e
      · rename_i o' h1
        cases e
        exact .inl h1
      · split at e
        · exact .inr ⟨by assumption, e⟩
        · cases e
  refine ⟨⟨fun a o e => ?_, fun a o e => sHH _ _ (R.b _ _ e), fun a o e => sHH _ _ (R.p _ _ e), fun a xs e => ?_, R.len, fun n c a h e => ?_, R.inj⟩, ⟨rfl, rfl, rfl, sG, fun a o e => ?_, List.prefix_refl _⟩⟩
  · rcases at_ a o e with h | ⟨_, h⟩
    · exact R'.g _ _ h
    · exact h
  · have h1 := R'.tup _ _ e
    show (if ex a then none else newG Fc.G H H' a) = _
    rw [if_neg fun q => hexT a xs q e]
    exact newG_same _ _ h1
  · obtain ⟨k1, k2⟩ := R.cell n c a h e
    have wk1 : Wk F { F with G := fun a => if ex a then none else newG Fc.G H H' a } := ⟨rfl, Same.refl _, sG, List.prefix_refl _⟩
    refine ⟨CellOk.wk (F := F) wk1 (fun _ _ _ e => e) k1 fun l => ?_, fun l => ⟨?_, (k2 l).2⟩⟩
    · obtain ⟨o, e1, _⟩ := k1.some l
      rw [e1]
      exact sHH _ _ e1
    · obtain ⟨o, e1, _⟩ := k1.some l
      show (if ex a then none else newG Fc.G H H' a) = none
      cases q : (if ex a then none else newG Fc.G H H' a) with
      | none => rfl
      | some u =>
        rcases at_ a u q with h | ⟨h, _⟩
        · rcases le.n a u h with h2 | h2
          · have h3 : F.G a = some u := h2
            rw [(k2 l).1] at h3
            cases h3
          · have h3 : H a = none := h2.1
            rw [e1] at h3
            cases h3
        · rw [e1] at h
          cases h
  · rcases at_ a o e with h | ⟨h, _⟩
    · rcases le.n a o h with h2 | h2
      · exact .inl h2
      · have h3 : H a = none := h2.1
        exact .inr ⟨R.b.free h3, R.p.free h3⟩
    · exact .inr ⟨R.b.free h, R.p.free h⟩
theorem ok_cP {K : PySem.W.Frag} {np : Nat} {f : PL} {dds : List DV} {dvs : List V} {E : XK} (hd : ∀ F : Fm, RelL F dds dvs) (hn : ∀ xs S z, f xs S = some z → xs.length = np) : OkL K (cP (pureOf f) dds) (fun vs H Q => spS K np f (vs ++ dvs) H Q E) :=
  fun F S H xs vs d S' Q hk R r hp hq => by
    unfold cP at hp
    split at hp
    · rename_i ys hy
      split at hp
      · rename_i d0 hp0
        cases hp
        unfold pureOf at hp0
        split at hp0
        · rename_i d1 S1 hf
          refine ⟨⟨F.K, F.G, H, fun _ => none, []⟩, [], ys, d1, S1, hk, rep_empty R, cpL_bor R hy (r.append (hd F)), hn _ _ _ hf, hf, fun Fc H' v le R' rv => ?_⟩
          obtain ⟨R2, le2⟩ := after_pure R le R' (ex := fun _ => False) (fun _ q => q.elim) (fun _ _ q => q.elim)
          refine hq _ _ v le2 R2 ?_
          have hB : Fc.B = H := le.b
          have c : CpTo false Fc { F with G := fun a => if False then none else newG Fc.G H H' a } := ⟨le.k.symm, fun a o e => newG_same _ _ e, fun q => nomatch q⟩
          refine mapD_rel c (cpN_rel c R' (fun n cc a o h l e1 e2 => ?_) _) d1 d v hp0 rv
          rw [if_neg Bool.false_ne_true]
          obtain ⟨_, k2⟩ := R'.cell n cc a h e1
          obtain ⟨ga, ba⟩ := k2 l
          show newG Fc.G H H' a = some o
          unfold newG
          rw [ga]
          show (if H a = none then H' a else none) = some o
          rw [← hB, if_pos ba.1, e2]
        · cases hp0
      · cases hp
    · cases hp
def cM (p : List DV → Option (List DV)) (dds : List DV) : PL := fun xs S => match cpL true S (xs ++ dds) with
  | some ys => (match p ys with
    | some es => some (.loc S.length, S ++ [.lst es])
    | none => none)
  | none => none
section
variable {X : Cx} {e : Expr}
theorem ed_call {es : List Expr} {sp : Sp} {dvs : List V} {E : XK} {p : PL} {fa : DA} (hpe : ∀ {t : TA}, PA X es t → PE X e (tCall sp dvs E t)) (hp : OkL X.K p (fun vs H Q => sp (vs ++ dvs) H Q E)) (ha : AD X es fa) : ED X e (dPrim p fa) :=
  .of (hpe ha.pa) fun F S H ρ σ d S' Q hk R rr hf hq => prim_go hp hk R rr hf hq
end
end Dn

namespace Dn
open PySem PySem.Spec PyProof.Rows L2

/-! ### comprehensions -/
theorem wipe_get {σ : L2.St} : ∀ {vs : List Nat} {j : Nat}, (wipe σ vs)[j]? = if j ∈ vs then (σ[j]?).map (fun _ => none) else σ[j]?
  | [], j => by rw [if_neg (by simp)] <;> rfl
  | v :: vs, j => by
    unfold wipe
    by_cases q : v = j
    · subst q
      rw [if_pos (by simp)]
      by_cases hv : v < σ.length
      · rw [List.getElem?_set_self (by rw [wipe_length]; exact hv), List.getElem?_eq_getElem hv] <;> rfl
      · rw [List.getElem?_eq_none (by rw [List.length_set, wipe_length]; omega), List.getElem?_eq_none (by omega)] <;> rfl
    · rw [List.getElem?_set_ne q, wipe_get (vs := vs)]
      by_cases hm : j ∈ vs
      · rw [if_pos hm, if_pos (by simp [hm])]
      · rw [if_neg hm, if_neg (by simp [hm]; exact fun z => q z.symm)]
theorem wipe_set {σ : L2.St} {vs : List Nat} {i : Nat} {x : Option V} (h : i ∈ vs) : wipe (σ.set i x) vs = wipe σ vs := by
  apply List.ext_getElem?
  intro j
  rw [wipe_get, wipe_get]
  by_cases q : i = j
  · subst q
    rw [if_pos h, if_pos h]
    by_cases hl : i < σ.length
    · rw [List.getElem?_set_self hl, List.getElem?_eq_getElem hl] <;> rfl
    · rw [List.getElem?_eq_none (by simp; omega), List.getElem?_eq_none (by omega)]
  · rw [List.getElem?_set_ne q]
theorem wipe_wipe {σ : L2.St} {vs : List Nat} : wipe (wipe σ vs) vs = wipe σ vs := by
  apply List.ext_getElem?
  intro j
  rw [wipe_get, wipe_get]
  by_cases h : j ∈ vs
  · rw [if_pos h, if_pos h, Option.map_map] <;> rfl
  · rw [if_neg h]
def dwipe (ρ : Ev) : List Nat → Ev
  | [] => ρ
  | v :: vs => (dwipe ρ vs).set v none
theorem relE_wipe {F : Fm} {ρ : Ev} {σ : L2.St} (r : RelE F ρ σ) : ∀ vs : List Nat, RelE F (dwipe ρ vs) (wipe σ vs)
  | [] => r
  | v :: vs => by
    have ih := relE_wipe r vs
    unfold dwipe wipe
    refine ⟨by simp [ih.len], fun j d e => ?_⟩
    by_cases q : v = j
    · subst q
      have hlt := (List.getElem?_eq_some_iff.mp e).1
      rw [List.length_set] at hlt
      rw [List.getElem?_set_self hlt] at e
      cases e
    · rw [List.getElem?_set_ne q] at e ⊢
      exact ih.at_ j d e
/-- a target of names alone: the heap stays, only the slots vs are set -/
def GW (K : PySem.W.Frag) (t : TG) (g : DG) (vs : List Nat) : Prop := ∀ F S H ρ σ d v ρ' S' (Q : L2.St → Hp → Prop), F.K = K → Rep F S H → RelE F ρ σ → Rel F d v → g d ρ S = some (ρ', S') → (∀ σ', S' = S → RelE F ρ' σ' → wipe σ' vs = wipe σ vs → Q σ' H) → t v σ H Q
theorem gw_name {K : PySem.W.Frag} {i : Nat} {vs : List Nat} (h : i ∈ vs) : GW K (gName i) (gSet i) vs := fun F S H ρ σ d v ρ' S' Q hk R rr rv hf hq => by
  cases (show some (ρ.set i (some d), S) = some (ρ', S') from hf)
  exact hq _ rfl (rr.set i rv) (wipe_set h)
def GWs (K : PySem.W.Frag) (t : TGs) (g : DGs) (vs : List Nat) : Prop := ∀ F S H ρ σ d v ρ' S' (Q : L2.St → Hp → Prop), F.K = K → Rep F S H → RelE F ρ σ → RelL F d v → g d ρ S = some (ρ', S') → (∀ σ', S' = S → RelE F ρ' σ' → wipe σ' vs = wipe σ vs → Q σ' H) → t v σ H Q
theorem gws_nil {K : PySem.W.Frag} {vs : List Nat} : GWs K gNil gsNil vs := fun F S H ρ σ d v ρ' S' Q hk R rr rv hf hq => by
  unfold gsNil at hf
  split at hf
  · cases hf
    exact ⟨rv.nil, hq σ rfl rr rfl⟩
  · cases hf
theorem gws_cons {K : PySem.W.Frag} {vs : List Nat} {t : TG} {u : TGs} {g : DG} {h : DGs} (h1 : GW K t g vs) (h2 : GWs K u h vs) : GWs K (gCons t u) (gsCons g h) vs := fun F S H ρ σ d v ρ' S' Q hk R rr rv hf hq => by
  unfold gsCons at hf
  split at hf
  · rename_i d0 r
    obtain ⟨x, vr, rfl, rx, rl⟩ := rv
    split at hf
    · rename_i ρ1 S1 e1
      refine ⟨x, vr, rfl, h1 F S H ρ σ d0 x ρ1 S1 _ hk R rr rx e1 fun σ1 hS r1 w1 => ?_⟩
      subst hS
      exact h2 F S1 H ρ1 σ1 r vr ρ' S' Q hk R r1 rl hf fun σ2 hS2 r2 w2 => hq σ2 hS2 r2 (w2.trans w1)
    · cases hf
  · cases hf
theorem gw_tup {K : PySem.W.Frag} {vs : List Nat} {n : Nat} {u : TGs} {h : DGs} (h2 : GWs K u h vs) : GW K (gTup K n u) (gTupD n h) vs := fun F S H ρ σ d v ρ' S' Q hk R rr rv hf hq => by
  unfold gTupD at hf
  split at hf
  · rename_i ds
    obtain ⟨hn, hf⟩ := of_ite hf
    obtain ⟨a, xs, rfl, hs, rl⟩ := rv
    exact ⟨a, xs, rfl, SqT.of (R.g _ _ hs), by rw [← rl.length]; exact hn, h2 F S H ρ σ ds xs ρ' S' Q hk R rr rl hf hq⟩
  · cases hf
theorem GW.gd {X : Cx} {e : Expr} {t : TG} {g : DG} {vs : List Nat} (h : GW X.K t g vs) (hp : PG X e t) : GD X e g := .of hp fun F S H ρ σ d v ρ' S' Q hk R rr rv hf hq =>
  h F S H ρ σ d v ρ' S' Q hk R rr rv hf fun σ' hS r _ => by
    subst hS
    exact hq F H σ' (.refl F) R r

def lcL (g : DG) (c fe : DE) (ρ : Ev) : List DV → Sto → Option (List DV × Sto)
  | [], S => some ([], S)
  | d :: ds, S => match g d ρ S with
    | some (ρ1, S1) => (match c ρ1 S1 with
      | some (.bl true, S2) => (match fe ρ1 S2 with
        | some (y, S3) => (match lcL g c fe ρ ds S3 with
          | some (ys, S4) => some (y :: ys, S4)
          | none => none)
        | none => none)
      | some (.bl false, S2) => lcL g c fe ρ ds S2
      | _ => none)
    | none => none
def lcR (it : DI) (g : DG) (c fe : DE) (vs : List Nat) : DA := fun ρ S => match it ρ S with
  | some (ds, S1) => (match lcL g c fe (dwipe ρ vs) ds S1 with
    | some (ys, S2) => if ys.length ≤ sizeLine then some (ys, S2) else none
    | none => none)
  | none => none
def dLc (it : DI) (g : DG) (c fe : DE) (vs : List Nat) : DE := fun ρ S => match lcR it g c fe vs ρ S with
  | some (ys, S2) => some (.lst .own ys, S2)
  | none => none
def NoCell (F : Fm) (S : Sto) (D : Addr) : Prop := ∀ (n : Nat) (c : Cell), S[n]? = some c → c.live = true → F.lm[n]? ≠ some D
abbrev Fm.prot (F : Fm) (P : Hp) : Fm := { F with P := P }
theorem Rep.prot {F : Fm} {S : Sto} {H : Hp} (R : Rep F S H) {P : Hp} (hP : Same P H) (pf : ∀ a o u, F.P a = some (.frz o u) → P a = some (.frz o u)) (hc : ∀ (n : Nat) (c : Cell) (a : Addr), S[n]? = some c → c.live = true → F.lm[n]? = some a → P a = none) : Rep (F.prot P) S H :=
  ⟨R.g, R.b, hP, R.tup, R.len, fun n c a h e => ⟨CellOk.wk (F := F) (F' := F.prot P) (⟨rfl, Same.refl F.B, Same.refl F.G, List.prefix_refl F.lm⟩ : Wk F (F.prot P)) pf (R.cell n c a h e).1 fun _ => rfl, fun l => ⟨((R.cell n c a h e).2 l).1, ((R.cell n c a h e).2 l).2.1, hc n c a h l e⟩⟩, R.inj⟩
/-- an object that no data leans on is changed -/
theorem Rep.over {F : Fm} {S : Sto} {H : Hp} (R : Rep F S H) {D : Addr} {o : HO} (gD : F.G D = none) (fD : F.free D) (nc : NoCell F S D) (ht : ∀ xs, o ≠ .tup xs) : Rep F S (upd H D o) := by
  refine ⟨same_mono R.g gD, same_mono R.b fD.1, same_mono R.p fD.2, fun a xs e => ?_, R.len, fun n c a h e => ?_, R.inj⟩
  · by_cases q : a = D
    · rw [q, upd_same] at e
      exact absurd (Option.some.inj e) (ht xs)
    · rw [upd_ne q] at e
      exact R.tup _ _ e
  · obtain ⟨k1, k2⟩ := R.cell n c a h e
    exact ⟨k1.wk (Le.refl F).wk (Le.refl F).pf fun l => upd_ne fun q => nc n c h l (by rw [← q]; exact e), k2⟩
/-- an object that is there becomes frozen data -/
theorem Rep.adopt {F : Fm} {S : Sto} {H : Hp} (R : Rep F S H) {p : Addr} {o : HO} (hp : H p = some o) (gp : F.G p = none) (fp : F.free p) (nc : NoCell F S p) : Rep (F.add p o) S H ∧ Le F (F.add p o) := by
  have le := Fm.add_le (F := F) (o := o) gp fp
  refine ⟨⟨fun a u e => ?_, R.b, R.p, fun a xs e => ?_, R.len, fun n c a h e => ?_, R.inj⟩, le⟩
  · have e2 : upd F.G p o a = some u := e
    by_cases q : a = p
    · rw [q, upd_same] at e2
      rw [q, hp]
      exact e2
    · rw [upd_ne q] at e2
      exact R.g _ _ e2
  · show upd F.G p o a = _
    by_cases q : a = p
    · rw [q, upd_same, ← hp, ← q]
      exact e
    · rw [upd_ne q]
      exact R.tup _ _ e
  · obtain ⟨k1, k2⟩ := R.cell n c a h e
    refine ⟨k1.wk le.wk le.pf fun _ => rfl, fun l => ⟨?_, (k2 l).2⟩⟩
    show upd F.G p o a = none
    rw [upd_ne fun q => nc n c h l (by rw [← q]; exact e)]
    exact (k2 l).1
theorem lc_go {K : PySem.W.Frag} {it : DI} {g : DG} {c fe : DE} {vs : List Nat} {t : TG} {tt : TT} (hg : GW K t g vs) (hc : ∀ σ H Q, rdT K c σ H Q → tt σ H Q) {F : Fm} {S S2 : Sto} {H : Hp} {ρ : Ev} {σ : L2.St} {ys : List DV} {Q : VK}
    (hk : F.K = K) (R : Rep F S H) (rr : RelE F ρ σ) (hf : lcR it g c fe vs ρ S = some (ys, S2))
    (hq : ∀ F' H' D xs, Le F F' → Rep F' S2 H' → H' D = some (.lst xs) → RelL F' ys xs → F'.G D = none → F'.free D → NoCell F' S2 D → Q (.ref D) H') : tLc (rdI K it) t tt (rdE K fe) vs σ H Q := by
  unfold lcR at hf
  split at hf
  · rename_i ds S1 h1
    split at hf
    · rename_i ys' S2' h2
      obtain ⟨hsz, hf⟩ := of_ite hf
      cases hf
      refine ⟨F, S, ρ, ds, S1, hk, R, rr, h1, fun J F1 H1 le1 R1 wk D hD => ?_⟩
      have r1 := rr.le le1
      refine ⟨fun i m H => i ≤ ds.length ∧ m = ds.length - i ∧ ∃ F' S' acc accV rest, Le F1 F' ∧ Rep F' S' H ∧ H D = some (.lst accV) ∧ RelL F' acc accV ∧ F'.G D = none ∧ F'.free D ∧ NoCell F' S' D ∧ lcL g c fe (dwipe ρ vs) (ds.drop i) S' = some (rest, S2) ∧ ys = acc ++ rest,
        ⟨ds.length, Nat.zero_le _, rfl, F1, S1, [], [], ys, .refl F1, R1.beside hD (fun _ q => nomatch q), upd_same, rfl, R1.g.free hD, ⟨R1.b.free hD, R1.p.free hD⟩, R1.noCell hD, by rw [List.drop_zero]; exact h2, rfl⟩, ?_⟩
      rintro i m H ⟨hi, rfl, F', S', acc, accV, rest, le', R', eD, ra, gD, fD, nc, hl, ey⟩
      have Pw : Wk F' (F'.prot (upd F'.P D (.lst accV))) := ⟨rfl, Same.refl _, Same.refl _, List.prefix_refl _⟩
      have Rp : Rep (F'.prot (upd F'.P D (.lst accV))) S' H := by
        refine R'.prot (fun a o e => ?_) (fun a o u e => by
          show upd F'.P D (.lst accV) a = _
          rw [upd_ne fun q => by rw [q, fD.2] at e; cases e]
          exact e) fun n c a h l e => ?_
        · by_cases q : a = D
          · rw [q, upd_same] at e
            rw [q, eD]
            exact e
          · rw [upd_ne q] at e
            exact R'.p _ _ e
        · rw [upd_ne fun q => nc n c h l (by rw [← q]; exact e)]
          exact ((R'.cell n c a h e).2 l).2.2
      have wk1 : Wk F1 (F'.prot (upd F'.P D (.lst accV))) := ⟨le'.k, le'.wk.b, le'.g, le'.m⟩
      obtain ⟨w1, w2⟩ := wk i _ S' H wk1 (fun a o u e => by
        show upd F'.P D (.lst accV) a = _
        have e' : F'.P a = some (.frz o u) := by rw [le'.p]; exact e
        rw [upd_ne fun q => by rw [q, fD.2] at e'; cases e']
        exact e') Rp
      by_cases hlt : i < ds.length
      · refine .inr ?_
        obtain ⟨g1, g2⟩ := w2 _ (List.getElem?_eq_getElem hlt)
        rw [List.drop_eq_getElem_cons hlt] at hl
        unfold lcL at hl
        refine ⟨g1, fun H' => ∃ m', m' < ds.length - i ∧ (i + 1 ≤ ds.length ∧ m' = ds.length - (i + 1) ∧ ∃ F' S' acc accV rest, Le F1 F' ∧ Rep F' S' H' ∧ H' D = some (.lst accV) ∧ RelL F' acc accV ∧ F'.G D = none ∧ F'.free D ∧ NoCell F' S' D ∧ lcL g c fe (dwipe ρ vs) (ds.drop (i + 1)) S' = some (rest, S2) ∧ ys = acc ++ rest), fun _ z => z, fun x H2 y => ?_⟩
        obtain ⟨F2, le2, R2, rx⟩ := g2 x H2 y
        have rE2 : RelE F2 (dwipe ρ vs) (wipe σ vs) := relE_wipe ((r1.wk wk1).le le2) vs
        -- what is known behind any part of the turn
        have back : ∀ {F4 : Fm} {S4 : Sto} {H4 : Hp}, Le (F'.prot (upd F'.P D (.lst accV))) F4 → Rep F4 S4 H4 → H4 D = some (.lst accV) ∧ Le F1 (F4.prot F1.P) ∧ F4.G D = none ∧ F4.B D = none ∧ F1.P D = none ∧ NoCell F4 S4 D ∧ Rep (F4.prot F1.P) S4 H4 ∧ RelL F4 acc accV := fun {F4 S4 H4} le4 R4 => by
          have eP : F4.P = upd F'.P D (.lst accV) := le4.p
          have ePD : F4.P D = some (.lst accV) := by rw [eP, upd_same]
          have pp : F'.P = F1.P := le'.p
          have gD4 : F4.G D = none := by
            cases q : F4.G D with
            | none => rfl
            | some o =>
              rcases le4.n D o q with h | h
              · have h2 : F'.G D = some o := h
                rw [gD] at h2
                cases h2
              · have h2 : upd F'.P D (HO.lst accV) D = none := h.2
                rw [upd_same] at h2
                cases h2
          have pD : F1.P D = none := by rw [← pp]; exact fD.2
          have nc4 : NoCell F4 S4 D := fun n c h l e => by
            have h3 := ((R4.cell n c D h e).2 l).2.2
            rw [ePD] at h3
            cases h3
          refine ⟨R4.p _ _ ePD, ⟨le4.k.trans le'.k, le4.b.trans le'.b, rfl, le'.g.trans le4.g, fun a o e => ?_, le'.m.trans le4.m⟩, gD4, ?_, pD, nc4, ?_, RelL.wk (F := F') ?_ _ _ ra⟩
          · rcases le4.n a o e with h | h
            · exact le'.n a o h
            · right
              have h1 : F'.B a = none := h.1
              have h2 : upd F'.P D (HO.lst accV) a = none := h.2
              have h3 : F'.P a = none := by
                by_cases q : a = D
                · rw [q, upd_same] at h2
                  cases h2
                · rw [upd_ne q] at h2
                  exact h2
              exact ⟨by rw [← le'.b]; exact h1, by rw [← pp]; exact h3⟩
          · rw [le4.b]
            exact fD.1
          · refine R4.prot (fun a o e => ?_) (fun a o u e => by
              rw [eP] at e
              by_cases q : a = D
              · rw [q, upd_same] at e
                cases e
              · rw [upd_ne q, pp] at e
                exact e) fun n c a h l e => ?_
            · refine R4.p _ _ ?_
              rw [eP, upd_ne (fun q => by rw [q, pD] at e; cases e), pp]
              exact e
            · have h3 := ((R4.cell n c a h e).2 l).2.2
              rw [eP] at h3
              by_cases q : a = D
              · rw [q]
                exact pD
              · rw [upd_ne q, pp] at h3
                exact h3
          · exact ⟨le4.k, le4.wk.b, le4.g, le4.m⟩
        split at hl
        · rename_i ρ1 S3 hg1
          refine hg F2 S' H2 _ _ _ x ρ1 S3 _ (le2.k.trans (le'.k.trans (le1.k.trans hk))) R2 rE2 rx hg1 fun σ3 hS r3 w3 => ⟨w3.trans wipe_wipe, ?_⟩
          subst hS
          split at hl
          · rename_i S5 hc1
            refine hc _ _ _ (rdT.go (le2.k.trans (le'.k.trans (le1.k.trans hk))) R2 r3 hc1 fun F3 H3 le3 hk3 R3 r4 => ?_)
            rw [if_pos rfl]
            split at hl
            · rename_i y1 S6 he1
              split at hl
              · rename_i ys7 S7 hl7
                cases hl
                refine rdE.go hk3 R3 r4 he1 fun F4 H4 v le4 hk4 R4 r5 rv => ?_
                obtain ⟨b1, b2, b3, b4, b5, b6, b7, b8⟩ := back ((le2.trans le3).trans le4) R4
                have hlen := ra.length
                refine ⟨accV, b1, ?_, _, by omega, hlt, rfl, F4.prot F1.P, S6, acc ++ [y1], accV ++ [v], ys7, b2, b7.over b3 ⟨b4, b5⟩ b6 (fun _ q => nomatch q), upd_same, ?_, b3, ⟨b4, b5⟩, b6, hl7, by rw [ey, List.append_assoc] <;> rfl⟩
                · rw [ey] at hsz
                  simp at hsz
                  omega
                · exact RelL.wk (F := F4) (F' := F4.prot F1.P) (⟨rfl, Same.refl F4.B, Same.refl F4.G, List.prefix_refl F4.lm⟩ : Wk F4 (F4.prot F1.P)) _ _ (b8.append (RelL.cons rv rfl))
              · cases hl
            · cases hl
          · rename_i S5 hc1
            refine hc _ _ _ (rdT.go (le2.k.trans (le'.k.trans (le1.k.trans hk))) R2 r3 hc1 fun F3 H3 le3 hk3 R3 r4 => ?_)
            rw [if_neg Bool.false_ne_true]
            obtain ⟨b1, b2, b3, b4, b5, b6, b7, b8⟩ := back (le2.trans le3) R3
            exact ⟨_, by omega, hlt, rfl, F3.prot F1.P, S5, acc, accV, rest, b2, b7, b1, RelL.wk (F := F3) (F' := F3.prot F1.P) (⟨rfl, Same.refl F3.B, Same.refl F3.G, List.prefix_refl F3.lm⟩ : Wk F3 (F3.prot F1.P)) _ _ b8, b3, ⟨b4, b5⟩, b6, hl, ey⟩
          · cases hl
        · cases hl
      · have e : i = ds.length := by omega
        subst e
        rw [List.drop_length] at hl
        cases (show some (([] : List DV), S') = some (rest, S2) from hl)
        rw [List.append_nil] at ey
        subst ey
        exact .inl ⟨w1 rfl, hq F' H D accV (le1.trans le') R' eD ra gD fD nc⟩
    · cases hf
  · cases hf
theorem lc_own {K : PySem.W.Frag} {it : DI} {g : DG} {c fe : DE} {vs : List Nat} {t : TG} {tt : TT} (hg : GW K t g vs) (hc : ∀ σ H Q, rdT K c σ H Q → tt σ H Q) {F : Fm} {S S' : Sto} {H : Hp} {ρ : Ev} {σ : L2.St} {d : DV} {Q : VK}
    (hk : F.K = K) (R : Rep F S H) (rr : RelE F ρ σ) (hf : dLc it g c fe vs ρ S = some (d, S')) (hq : PostE F S' d Q) : tLc (rdI K it) t tt (rdE K fe) vs σ H Q := by
  unfold dLc at hf
  split at hf
  · rename_i ys S2 h
    cases hf
    refine lc_go hg hc hk R rr h fun F' H' D xs le R' eD r gD fD nc => ?_
    obtain ⟨R2, le2⟩ := R'.adopt eD gD fD nc
    exact hq _ _ _ (le.trans le2) R2 ⟨D, xs, rfl, upd_same, r.le le2⟩
  · cases hf
theorem yes_of {K : PySem.W.Frag} : ∀ σ H Q, rdT K (dC (.bl true)) σ H Q → tYes σ H Q := fun σ H Q h => by
  obtain ⟨F, S, ρ, b, S', hk, R, rr, e, hq⟩ := h
  cases (show some (DV.bl true, S) = some (DV.bl b, S') from e)
  exact hq F H (.refl F) R
theorem same_of {K : PySem.W.Frag} {c : DE} : ∀ σ H Q, rdT K c σ H Q → rdT K c σ H Q := fun _ _ _ h => h
section
variable {X : Cx} {e : Expr} {st : Stmt} {it : DI} {g : DG} {c fe : DE} {vs : List Nat} {t : TG} {tt : TT}
theorem ed_lc (h : PE X e (tLc (rdI X.K it) t tt (rdE X.K fe) vs)) (hg : GW X.K t g vs) (hc : ∀ σ H Q, rdT X.K c σ H Q → tt σ H Q) : ED X e (dLc it g c fe vs) :=
  .of h fun F S H ρ σ d S' Q hk R rr hf hq => lc_own hg hc hk R rr hf hq
/-- name = [..] -/
theorem sd_setLc {i : Nat} (h : PS X st (tAsg (tLc (rdI X.K it) t tt (rdE X.K fe) vs) (gName i))) (hg : GW X.K t g vs) (hc : ∀ σ H Q, rdT X.K c σ H Q → tt σ H Q) : SD X st (dSet i (dLc it g c fe vs)) :=
  sd_set ⟨fun pins s σ H D I hw => h.run pins s σ H D I (by
    obtain ⟨F, S, ρ, d, S', hk, R, rr, hf, hq⟩ := hw
    exact lc_own hg hc hk R rr hf hq)⟩
end
end Dn

namespace Dn
open PySem PySem.Spec PyProof.Rows L2

/-! ### what a value holds -/
def asL (S : Sto) : DV → Option (List DV)
  | .lst _ ds => some ds
  | .loc n => match S[n]? with
    | some (.lst ds) => some ds
    | some (.frz (.lst _ ds)) => some ds
    | _ => none
  | _ => none
/-- a list that is tracked as such (not the script, not the module's own) -/
def asT (S : Sto) : DV → Option (List DV)
  | .lst .own ds => some ds
  | .lst .bor ds => some ds
  | .loc n => match S[n]? with
    | some (.lst ds) => some ds
    | some (.frz (.lst .own ds)) => some ds
    | _ => none
  | _ => none
section
variable {F : Fm} {S : Sto} {H : Hp} {d : DV} {v : V} {ds : List DV}
theorem Rel.lstSq {k : LK} (R : Rep F S H) (r : Rel F (.lst k ds) v) : ∃ a xs, v = .ref a ∧ SqL F.K H a xs ∧ RelL F ds xs := by
  cases k with
  | own =>
    obtain ⟨a, xs, rfl, h, rl⟩ := r
    exact ⟨a, xs, rfl, SqL.of (R.g _ _ h), rl⟩
  | bor =>
    obtain ⟨a, xs, rfl, h, rl⟩ := r
    exact ⟨a, xs, rfl, SqL.of (h.elim (R.b _ _) (R.g _ _)), rl⟩
  | ext =>
    obtain ⟨a, xs, rfl, h, rl⟩ := r
    exact ⟨a, xs, rfl, sqL_same R.g h, rl⟩
theorem asL_sq (R : Rep F S H) (r : Rel F d v) (h : asL S d = some ds) : ∃ a xs, v = .ref a ∧ SqL F.K H a xs ∧ RelL F ds xs := by
  cases d with
  | lst k es =>
    cases (show some es = some ds from h)
    exact r.lstSq R
  | loc n =>
    obtain ⟨a, ha, rfl⟩ := r
    unfold asL at h
    simp only at h
    split at h
    · rename_i es hc
      cases h
      obtain ⟨⟨xs, e, rl⟩, _⟩ := R.cell n _ a hc ha
      exact ⟨a, xs, rfl, SqL.of e, rl⟩
    · rename_i k es hc
      cases h
      obtain ⟨rl, _⟩ := R.cell n _ a hc ha
      exact (show Rel F (.lst k ds) (.ref a) from rl).lstSq R
    · cases h
  | _ => cases h
theorem asT_sq (R : Rep F S H) (r : Rel F d v) (h : asT S d = some ds) : ∃ a xs, v = .ref a ∧ H a = some (.lst xs) ∧ RelL F ds xs := by
  cases d with
  | lst k es =>
    cases k with
    | own =>
      cases (show some es = some ds from h)
      obtain ⟨a, xs, rfl, h, rl⟩ := r
      exact ⟨a, xs, rfl, R.g _ _ h, rl⟩
    | bor =>
      cases (show some es = some ds from h)
      obtain ⟨a, xs, rfl, h, rl⟩ := r
      exact ⟨a, xs, rfl, h.elim (R.b _ _) (R.g _ _), rl⟩
    | ext => cases h
  | loc n =>
    obtain ⟨a, ha, rfl⟩ := r
    unfold asT at h
    simp only at h
    split at h
    · rename_i es hc
      cases h
      obtain ⟨⟨xs, e, rl⟩, _⟩ := R.cell n _ a hc ha
      exact ⟨a, xs, rfl, e, rl⟩
    · rename_i es hc
      cases h
      obtain ⟨rl, _⟩ := R.cell n _ a hc ha
      obtain ⟨b, xs, e1, h, rl⟩ := (show Rel F (.lst .own ds) (.ref a) from rl)
      cases e1
      exact ⟨a, xs, rfl, R.g _ _ h, rl⟩
    · cases h
  | _ => cases h
theorem tup_sq (R : Rep F S H) (r : Rel F (.tup ds) v) : ∃ a xs, v = .ref a ∧ SqT F.K H a xs ∧ RelL F ds xs := by
  obtain ⟨a, xs, rfl, h, rl⟩ := r
  exact ⟨a, xs, rfl, SqT.of (R.g _ _ h), rl⟩
theorem tup_at (R : Rep F S H) (r : Rel F (.tup ds) v) : ∃ a xs, v = .ref a ∧ H a = some (.tup xs) ∧ RelL F ds xs := by
  obtain ⟨a, xs, rfl, h, rl⟩ := r
  exact ⟨a, xs, rfl, R.g _ _ h, rl⟩
theorem tupx_sq (R : Rep F S H) (r : Rel F (.tupx ds) v) : ∃ a xs, v = .ref a ∧ SqT F.K H a xs ∧ RelL F ds xs := by
  obtain ⟨a, xs, rfl, h, rl⟩ := r
  exact ⟨a, xs, rfl, sqT_same R.g h, rl⟩
end

/-! ### arithmetic -/
abbrev PI2 := Int → Int → Option Int
def pI (g : PI2) : P2 := fun x y S => match x, y with
  | .int i, .int j => (match g i j with
    | some k => some (.int k, S)
    | none => none)
  | _, _ => none
theorem ok_I {K : PySem.W.Frag} {C : Int → Int → Prop} {g : Int → Int → Int} {p : PI2} (h : ∀ i j k, p i j = some k → C i j ∧ k = g i j) : Ok2 K (pI p) (rI C fun i j => .int (g i j)) :=
  fun F S H x y vx vy d S' Q hk R rx ry hp hq => by
    unfold pI at hp
    split at hp
    · rename_i i j
      split at hp
      · rename_i k hk
        cases hp
        obtain ⟨hc, rfl⟩ := h _ _ _ hk
        exact ⟨i, j, rx, ry, hc, hq F H _ (.refl F) R rfl⟩
      · cases hp
    · cases hp
def gSub : PI2 := fun i j => some (i - j)
def gMul : PI2 := fun i j => if (i.natAbs < 18446744073709551616 ∨ j.natAbs < 18446744073709551616) ∨ i.natAbs.log2 + j.natAbs.log2 < 1000000 then some (i * j) else none
def gDiv : PI2 := fun i j => if 0 < j ∧ j.natAbs.log2 < 9000 then some (i / j) else none
def gMod : PI2 := fun i j => if 0 < j then some (i % j) else none
def gAnd : PI2 := fun i j => some (Builtin.bitAnd i j)
def gOr : PI2 := fun i j => some (Builtin.bitOr i j)
def gXor : PI2 := fun i j => some (Builtin.bitXor i j)
abbrev pSub : P2 := pI gSub
abbrev pDiv : P2 := pI gDiv
abbrev pMod : P2 := pI gMod
abbrev pAnd : P2 := pI gAnd
abbrev pOr : P2 := pI gOr
abbrev pXor : P2 := pI gXor
theorem of_ite2 {α : Type} {c : Prop} [Decidable c] {x z : α} (h : (if c then some x else none) = some z) : c ∧ z = x := by
  obtain ⟨h1, h2⟩ := of_ite h
  exact ⟨h1, (Option.some.inj h2).symm⟩
section
variable {X : Cx} {a b : Expr} {f g : DE} {pos : Pos}
theorem ed_div (ha : ED X a f) (hb : ED X b g) : ED X (.BinOp a .FloorDiv b pos) (dBin pDiv f g) := ed_bin op_fdivW (ok_I fun i j k h => by unfold gDiv at h; have h2 := of_ite2 h; exact h2) ha hb
theorem ed_mod (ha : ED X a f) (hb : ED X b g) : ED X (.BinOp a .Mod b pos) (dBin pMod f g) := ed_bin op_mod (ok_I fun i j k h => by unfold gMod at h; have h2 := of_ite2 h; exact h2) ha hb
def pNeg : P1 := fun x S => match x with
  | .int i => some (.int (-i), S)
  | _ => none
theorem ed_neg (ha : ED X a f) : ED X (.UnaryOp .USub a pos) (dUn pNeg f) := ed_un un_neg (fun F S H x vx d S' Q hk R rx hp hq => by
  unfold pNeg at hp
  split at hp
  · cases hp
    exact ⟨_, rx, hq F H _ (.refl F) R rfl⟩
  · cases hp) ha
end
/-! ### + and * over more kinds -/
def pAdd : P2 := fun x y S => match x, y with
  | .int i, .int j => some (.int (i + j), S)
  | .str a, .str b => if a.length + b.length ≤ sizeLine then some (.str (a ++ b), S) else none
  | .tup xs, .tup ys => if xs.length + ys.length ≤ sizeLine then some (.tup (xs ++ ys), S) else none
  | x, y => (match asT S x, asT S y with
    | some xs, some ys => if xs.length + ys.length ≤ sizeLine then some (.lst .own (xs ++ ys), S) else none
    | _, _ => none)
def pAddM : P2 := fun x y S => match asT S x, asT S y with
  | some xs, some ys => if xs.length + ys.length ≤ sizeLine then some (.loc S.length, S ++ [.lst (xs ++ ys)]) else none
  | _, _ => none
abbrev rAddAll (K : PySem.W.Frag) : R2 := fun x y H Q => (rI0 fun i j => .int (i + j)) x y H Q ∨ (fun x y H Q => (fun x y H Q => ∃ i j, x = .str i ∧ y = .str j ∧ i.length + j.length ≤ sizeLine ∧ Q (.str (i ++ j)) H) x y H Q ∨ (fun x y H Q => rCat x y H Q ∨ rCatA K x y H Q) x y H Q) x y H Q
theorem op_addAll {X : Cx} : OpR X (binaryOp .Add) (rAddAll X.K) := op_add.or (op_add_str.or (op_cat.or op_catA))
theorem ok_add {K : PySem.W.Frag} : Ok2 K pAdd (rAddAll K) := fun F S H x y vx vy d S' Q hk R rx ry hp hq => by
  unfold pAdd at hp
  split at hp
  · cases hp
    exact .inl ⟨_, _, rx, ry, hq F H _ (.refl F) R rfl⟩
  · obtain ⟨h1, h2⟩ := of_ite hp
    cases h2
    exact .inr (.inl ⟨_, _, rx, ry, h1, hq F H _ (.refl F) R rfl⟩)
  · rename_i xs ys
    obtain ⟨h1, h2⟩ := of_ite hp
    cases h2
    obtain ⟨a, us, rfl, sa, ra⟩ := tup_sq R rx
    obtain ⟨b, ws, rfl, sb, rb⟩ := tup_sq R ry
    rw [hk] at sa sb
    refine .inr (.inr (.inr ⟨a, b, us, ws, rfl, rfl, sa, sb, by rw [← ra.length, ← rb.length]; exact h1, fun e => ?_, fun n e => ?_, fun n1 n2 => new_tup R (ra.append rb) hq⟩))
    · have e2 : xs = [] := List.eq_nil_of_length_eq_zero (by rw [ra.length, e]; rfl)
      subst e2
      exact hq F H _ (.refl F) R ry
    · have e2 : ys = [] := List.eq_nil_of_length_eq_zero (by rw [rb.length, e]; rfl)
      subst e2
      rw [List.append_nil] at hq
      exact hq F H _ (.refl F) R rx
  · split at hp
    · rename_i xs ys h1 h2
      obtain ⟨h3, h4⟩ := of_ite hp
      cases h4
      obtain ⟨a, us, rfl, sa, ra⟩ := asT_sq R rx h1
      obtain ⟨b, ws, rfl, sb, rb⟩ := asT_sq R ry h2
      exact .inr (.inr (.inl ⟨a, b, us, ws, rfl, rfl, sa, sb, by rw [← ra.length, ← rb.length]; exact h3, new_lst R (ra.append rb) hq⟩))
    · cases hp
def repD (xs : List DV) (k : Nat) : List DV := (List.replicate k xs).flatten
def pMul : P2 := fun x y S => match x, y with
  | .int i, .int j => (match gMul i j with
    | some k => some (.int k, S)
    | none => none)
  | x, .int k => (match asT S x with
    | some xs => if k.natAbs < 9223372036854775808 ∧ xs.length * k.toNat ≤ sizeLine then some (.lst .own (repD xs k.toNat), S) else none
    | none => none)
  | _, _ => none
theorem RelL.rep {F : Fm} {ds : List DV} {vs : List V} (r : RelL F ds vs) : ∀ k : Nat, RelL F (repD ds k) (List.replicate k vs).flatten
  | 0 => rfl
  | k + 1 => by
    unfold repD
    rw [List.replicate_succ, List.replicate_succ, List.flatten_cons, List.flatten_cons]
    exact r.append (RelL.rep r k)
def CMulA (i j : Int) : Prop := CMul i j ∨ CMulW i j
theorem gMul_ok {i j : Int} (h : (i.natAbs < 18446744073709551616 ∨ j.natAbs < 18446744073709551616) ∨ i.natAbs.log2 + j.natAbs.log2 < 1000000) : CMulA i j := by
  rcases h with (h | h) | h
  · exact .inl (.inl ⟨by omega, by omega⟩)
  · exact .inl (.inr ⟨by omega, by omega⟩)
  · exact .inr h
theorem op_mulA {X : Cx} : OpR X (binaryOp .Mult) (rI CMulA fun i j => .int (i * j)) := opI fun _ _ _ _ _ _ _ hc q => mul_int q (hc.elim CMul.ok CMulW.ok)
abbrev rMulAll : R2 := fun x y H Q => (rI CMulA fun i j => .int (i * j)) x y H Q ∨ rRep x y H Q
theorem op_mulAll {X : Cx} : OpR X (binaryOp .Mult) rMulAll := op_mulA.or op_rep
theorem ok_mul {K : PySem.W.Frag} : Ok2 K pMul rMulAll := fun F S H x y vx vy d S' Q hk R rx ry hp hq => by
  unfold pMul at hp
  split at hp
  · unfold gMul at hp
    split at hp
    · rename_i k hg
      obtain ⟨h1, rfl⟩ := of_ite2 hg
      cases hp
      exact .inl ⟨_, _, rx, ry, gMul_ok h1, hq F H _ (.refl F) R rfl⟩
    · cases hp
  · split at hp
    · rename_i xs h1
      obtain ⟨⟨h2, h4⟩, h5⟩ := of_ite hp
      cases h5
      obtain ⟨a, us, rfl, sa, ra⟩ := asT_sq R rx h1
      have ey : vy = .int _ := ry
      refine .inr ⟨a, _, us, rfl, ey, sa, by omega, by omega, by rw [← ra.length]; exact h4, new_lst R (ra.rep _) hq⟩
    · cases hp
  · cases hp
/-! ### == and != -/
mutual
def toPy : DV → Option PyData
  | .non => some .none
  | .bl b => some (.bool b)
  | .int i => some (.int i)
  | .str s => some (.str s)
  | .tup ds => match toPyL ds with
    | some es => some (.tuple es)
    | none => none
  | .lst _ ds => match toPyL ds with
    | some es => some (.list es)
    | none => none
  | _ => none
def toPyL : List DV → Option (List PyData)
  | [] => some []
  | d :: ds => match toPy d with
    | some e => (match toPyL ds with
      | some es => some (e :: es)
      | none => none)
    | none => none
end
mutual
theorem toPy_dp {F : Fm} {H : Hp} (hg : Same F.G H) (hb : Same F.B H) : ∀ (d : DV) (v : V) (e : PyData), Rel F d v → toPy d = some e → Dp F.K H v e
  | .non, v, e, r, h => by
    cases (show some PyData.none = some e from h)
    rw [show v = .non from r]
    exact .non
  | .bl b, v, e, r, h => by
    cases (show some (PyData.bool b) = some e from h)
    rw [show v = .bl b from r]
    exact .bl b
  | .int b, v, e, r, h => by
    cases (show some (PyData.int b) = some e from h)
    rw [show v = .int b from r]
    exact .int b
  | .str b, v, e, r, h => by
    cases (show some (PyData.str b) = some e from h)
    rw [show v = .str b from r]
    exact .str b
  | .tup ds, v, e, r, h => by
    unfold toPy at h
    split at h
    · rename_i es he
      cases h
      obtain ⟨a, xs, rfl, hs, rl⟩ := r
      exact .tup (SqT.of (hg _ _ hs)) (toPyL_dp hg hb ds xs es rl he)
    · cases h
  | .lst k ds, v, e, r, h => by
    unfold toPy at h
    split at h
    · rename_i es he
      cases h
      cases k with
      | own =>
        obtain ⟨a, xs, rfl, hs, rl⟩ := r
        exact .lst (SqL.of (hg _ _ hs)) (toPyL_dp hg hb ds xs es rl he)
      | bor =>
        obtain ⟨a, xs, rfl, hs, rl⟩ := r
        exact .lst (SqL.of (hs.elim (hb _ _) (hg _ _))) (toPyL_dp hg hb ds xs es rl he)
      | ext =>
        obtain ⟨a, xs, rfl, hs, rl⟩ := r
        exact .lst (sqL_same hg hs) (toPyL_dp hg hb ds xs es rl he)
    · cases h
  | .dik _ _ _, v, e, r, h => by cases (show none = some e from h)
  | .tupx _, v, e, r, h => by cases (show none = some e from h)
  | .dit _ _ _, v, e, r, h => by cases (show none = some e from h)
  | .loc _, v, e, r, h => by cases (show none = some e from h)
theorem toPyL_dp {F : Fm} {H : Hp} (hg : Same F.G H) (hb : Same F.B H) : ∀ (ds : List DV) (vs : List V) (es : List PyData), RelL F ds vs → toPyL ds = some es → DpAll F.K H vs es
  | [], vs, es, r, h => by
    cases (show some ([] : List PyData) = some es from h)
    rw [show vs = [] from r]
    exact .nil
  | d :: ds, vs, es, r, h => by
    obtain ⟨x, xr, rfl, h1, h2⟩ := r
    unfold toPyL at h
    split at h
    · rename_i e he
      split at h
      · rename_i es' hes
        cases h
        exact .cons (toPy_dp hg hb d x e h1 he) (toPyL_dp hg hb ds xr es' h2 hes)
      · cases h
    · cases h
end
def scD : DV → DV → Option Bool
  | .non, .non => some true
  | .non, .int _ => some false
  | .int _, .non => some false
  | .non, .str _ => some false
  | .str _, .non => some false
  | .non, .bl _ => some false
  | .bl _, .non => some false
  | .int i, .int j => some (decide (i = j))
  | .bl i, .bl j => some (decide (i = j))
  | .str i, .str j => some (decide (i = j))
  | .int _, .str _ => some false
  | .str _, .int _ => some false
  | .bl _, .str _ => some false
  | .str _, .bl _ => some false
  | _, _ => none
def eqDeep (S : Sto) (x y : DV) : Option Bool := match cpD true S x, cpD true S y with
  | some x', some y' => (match toPy x', toPy y' with
    | some d, some e => if SeqAt.shaped d = true ∧ SeqAt.shaped e = true then some (PyData.eqv d e) else none
    | _, _ => none)
  | _, _ => none
def eqD (S : Sto) (x y : DV) : Option Bool := match scD x y with
  | some b => some b
  | none => eqDeep S x y
def pEq (neg : Bool) : P2 := fun x y S => match eqD S x y with
  | some b => some (.bl (if neg then !b else b), S)
  | none => none
theorem scD_ok {F : Fm} {x y : DV} {vx vy : V} {b : Bool} (rx : Rel F x vx) (ry : Rel F y vy) (h : scD x y = some b) : scal vx vy = true ∧ decide (vx = vy) = b := by
  have g : ∀ {i j : Int}, decide (V.int i = V.int j) = decide (i = j) := fun {i j} => by
    by_cases q : i = j
    · rw [q, decide_eq_true rfl, decide_eq_true rfl]
    · rw [decide_eq_false q, decide_eq_false fun z => q (V.int.inj z)]
  have g2 : ∀ {i j : Bool}, decide (V.bl i = V.bl j) = decide (i = j) := fun {i j} => by
    by_cases q : i = j
    · rw [q, decide_eq_true rfl, decide_eq_true rfl]
    · rw [decide_eq_false q, decide_eq_false fun z => q (V.bl.inj z)]
  have g3 : ∀ {i j : Str}, decide (V.str i = V.str j) = decide (i = j) := fun {i j} => by
    by_cases q : i = j
    · rw [q, decide_eq_true rfl, decide_eq_true rfl]
    · rw [decide_eq_false q, decide_eq_false fun z => q (V.str.inj z)]
  cases x <;> cases y <;> first
    | (cases h; done)
    | (obtain rfl := (show vx = _ from rx)
       obtain rfl := (show vy = _ from ry)
       cases h
       first
        | exact ⟨rfl, rfl⟩
        | exact ⟨rfl, g⟩
        | exact ⟨rfl, g2⟩
        | exact ⟨rfl, g3⟩)
theorem eqDeep_ok {F : Fm} {S : Sto} {H : Hp} {x y : DV} {vx vy : V} {b : Bool} (R : Rep F S H) (rx : Rel F x vx) (ry : Rel F y vy) (h : eqDeep S x y = some b) : ∃ d e, Dp F.K H vx d ∧ Dp F.K H vy e ∧ SeqAt.shaped d = true ∧ SeqAt.shaped e = true ∧ b = PyData.eqv d e := by
  unfold eqDeep at h
  split at h
  · rename_i x' y' hx hy
    split at h
    · rename_i d e hd he
      obtain ⟨⟨s1, s2⟩, rfl⟩ := of_ite2 h
      have r1 : RelL ⟨F.K, F.G, H, fun _ => none, []⟩ [x'] [vx] := cpL_bor R (ds := [x]) (by unfold cpL mapDL mapDL; rw [show mapD true _ x = some x' from hx]) ⟨vx, [], rfl, rx, rfl⟩
      have r2 : RelL ⟨F.K, F.G, H, fun _ => none, []⟩ [y'] [vy] := cpL_bor R (ds := [y]) (by unfold cpL mapDL mapDL; rw [show mapD true _ y = some y' from hy]) ⟨vy, [], rfl, ry, rfl⟩
      obtain ⟨_, _, e1, r1, _⟩ := r1
      obtain ⟨_, _, e2, r2, _⟩ := r2
      cases e1
      cases e2
      exact ⟨d, e, toPy_dp (F := ⟨F.K, F.G, H, fun _ => none, []⟩) R.g (Same.refl _) x' vx d r1 hd, toPy_dp (F := ⟨F.K, F.G, H, fun _ => none, []⟩) R.g (Same.refl _) y' vy e r2 he, s1, s2, rfl⟩
    · cases h
  · cases h
abbrev rEqAll (K : PySem.W.Frag) : R2 := fun x y H Q => rEq x y H Q ∨ rEqD K x y H Q
abbrev rNeAll (K : PySem.W.Frag) : R2 := fun x y H Q => rNe x y H Q ∨ rNeD K x y H Q
theorem ok_eq {K : PySem.W.Frag} : Ok2 K (pEq false) (rEqAll K) := fun F S H x y vx vy d S' Q hk R rx ry hp hq => by
  unfold pEq at hp
  split at hp
  · rename_i b he
    cases hp
    unfold eqD at he
    split at he
    · rename_i b' hs
      cases he
      obtain ⟨h1, h2⟩ := scD_ok rx ry hs
      exact .inl ⟨h1, by rw [h2]; exact hq F H _ (.refl F) R rfl⟩
    · obtain ⟨d, e, h1, h2, h3, h4, rfl⟩ := eqDeep_ok R rx ry he
      rw [hk] at h1 h2
      exact .inr ⟨d, e, h1, h2, h3, h4, hq F H _ (.refl F) R rfl⟩
  · cases hp
theorem ok_ne {K : PySem.W.Frag} : Ok2 K (pEq true) (rNeAll K) := fun F S H x y vx vy d S' Q hk R rx ry hp hq => by
  unfold pEq at hp
  split at hp
  · rename_i b he
    cases hp
    unfold eqD at he
    split at he
    · rename_i b' hs
      cases he
      obtain ⟨h1, h2⟩ := scD_ok rx ry hs
      exact .inl ⟨h1, by rw [h2]; exact hq F H _ (.refl F) R rfl⟩
    · obtain ⟨d, e, h1, h2, h3, h4, rfl⟩ := eqDeep_ok R rx ry he
      rw [hk] at h1 h2
      exact .inr ⟨d, e, h1, h2, h3, h4, hq F H _ (.refl F) R rfl⟩
  · cases hp

/-! ### other comparisons -/
def pCmp (g : Int → Int → Bool) : P2 := fun x y S => match x, y with
  | .int i, .int j => some (.bl (g i j), S)
  | _, _ => none
abbrev pLt : P2 := pCmp fun i j => decide (i < j)
abbrev pLe : P2 := pCmp fun i j => decide (i ≤ j)
abbrev pGt : P2 := pCmp fun i j => decide (j < i)
abbrev pGe : P2 := pCmp fun i j => decide (j ≤ i)
theorem ok_cmp {K : PySem.W.Frag} {g : Int → Int → Bool} : Ok2 K (pCmp g) (rI0 fun i j => .bl (g i j)) := fun F S H x y vx vy d S' Q hk R rx ry hp hq => by
  unfold pCmp at hp
  split at hp
  · cases hp
    exact ⟨_, _, rx, ry, hq F H _ (.refl F) R rfl⟩
  · cases hp
def isNon : DV → Bool
  | .non => true
  | _ => false
def pIs (neg : Bool) : P2 := fun x y S => match y with
  | .non => some (.bl (if neg then !isNon x else isNon x), S)
  | _ => none
theorem isNon_ok {F : Fm} {x : DV} {v : V} (r : Rel F x v) : decide (v = .non) = isNon x := by
  cases x with
  | non =>
    obtain rfl := (show v = _ from r)
    exact decide_eq_true rfl
  | bl b =>
    obtain rfl := (show v = _ from r)
    exact decide_eq_false fun q => nomatch q
  | int b =>
    obtain rfl := (show v = _ from r)
    exact decide_eq_false fun q => nomatch q
  | str b =>
    obtain rfl := (show v = _ from r)
    exact decide_eq_false fun q => nomatch q
  | tup ds =>
    obtain ⟨a, xs, rfl, _⟩ := r
    exact decide_eq_false fun q => nomatch q
  | lst k ds =>
    cases k <;>
    · obtain ⟨a, xs, rfl, _⟩ := r
      exact decide_eq_false fun q => nomatch q
  | tupx ds =>
    obtain ⟨a, xs, rfl, _⟩ := r
    exact decide_eq_false fun q => nomatch q
  | dik k ks ds =>
    obtain ⟨a, xs, rfl, _⟩ := r
    exact decide_eq_false fun q => nomatch q
  | dit k ks ds =>
    obtain ⟨a, xs, rfl, _⟩ := r
    exact decide_eq_false fun q => nomatch q
  | loc n =>
    obtain ⟨a, _, rfl⟩ := r
    exact decide_eq_false fun q => nomatch q
theorem ok_is {K : PySem.W.Frag} : Ok2 K (pIs false) (fun x y H Q => y = .non ∧ Q (.bl (decide (x = .non))) H) := fun F S H x y vx vy d S' Q hk R rx ry hp hq => by
  unfold pIs at hp
  split at hp
  · cases hp
    exact ⟨ry, by rw [isNon_ok rx]; exact hq F H _ (.refl F) R rfl⟩
  · cases hp
theorem ok_isnot {K : PySem.W.Frag} : Ok2 K (pIs true) (fun x y H Q => y = .non ∧ Q (.bl (!decide (x = .non))) H) := fun F S H x y vx vy d S' Q hk R rx ry hp hq => by
  unfold pIs at hp
  split at hp
  · cases hp
    exact ⟨ry, by rw [isNon_ok rx]; exact hq F H _ (.refl F) R rfl⟩
  · cases hp
/-- flat values: as in «in» over a list or tuple -/
def flD : DV → Bool
  | .non => true
  | .bl _ => true
  | .int _ => true
  | .str _ => true
  | _ => false
def eqF : DV → DV → Bool
  | .non, .non => true
  | .bl a, .bl b => a == b
  | .int a, .int b => a == b
  | .str a, .str b => a == b
  | .bl a, .int b => (if a then 1 else 0) == b
  | .int a, .bl b => a == (if b then 1 else 0)
  | _, _ => false
end Dn

namespace Dn
open PySem PySem.Spec PyProof.Rows L2

theorem PE.or {X : Cx} {e : Expr} {t u : TE} (h : PE X e t) (k : PE X e u) : PE X e (fun σ H Q => t σ H Q ∨ u σ H Q) := ⟨fun pins s σ H Q I w => w.elim (h.run pins s σ H Q I) (k.run pins s σ H Q I)⟩
theorem PT.or {X : Cx} {e : Expr} {t u : TT} (h : PT X e t) (k : PT X e u) : PT X e (fun σ H Q => t σ H Q ∨ u σ H Q) := ⟨fun pins s σ H Q I w => w.elim (h.run pins s σ H Q I) (k.run pins s σ H Q I)⟩
theorem PI.or {X : Cx} {tg e : Expr} {t u : TI} (h : PI X tg e t) (k : PI X tg e u) : PI X tg e (fun σ H Q => t σ H Q ∨ u σ H Q) := ⟨fun pins s σ H Q I w => w.elim (h.run pins s σ H Q I) (k.run pins s σ H Q I)⟩

/-! ### flat data -/
theorem flD_ok {F : Fm} {x : DV} {v : V} (r : Rel F x v) (h : flD x = true) : flatV v = true ∧ ∀ {y : DV} {u : V}, Rel F y u → flD y = true → eqV v u = eqF x y := by
  cases x <;> first
    | (cases h; done)
    | (obtain rfl := (show v = _ from r)
       refine ⟨rfl, fun {y u} ry hy => ?_⟩
       cases y <;> first
        | (cases hy; done)
        | (obtain rfl := (show u = _ from ry)
           rfl))
def inD (x : DV) (ds : List DV) : Bool := ds.any fun y => eqF y x
theorem inD_ok {F : Fm} {x : DV} {v : V} (r : Rel F x v) (h : flD x = true) : ∀ {ds : List DV} {vs : List V}, RelL F ds vs → ds.all flD = true → vs.all flatV = true ∧ inV v vs = inD x ds
  | [], vs, rl, _ => by
    obtain rfl := (show vs = [] from rl)
    exact ⟨rfl, rfl⟩
  | d :: ds, vs, rl, ha => by
    obtain ⟨u, ur, rfl, h1, h2⟩ := rl
    rw [List.all_cons] at ha
    obtain ⟨k1, k2⟩ := Bool.and_eq_true_iff.mp ha
    obtain ⟨e1, e2⟩ := inD_ok r h h2 k2
    obtain ⟨f1, f2⟩ := flD_ok h1 k1
    refine ⟨by rw [List.all_cons, f1, e1] <;> rfl, ?_⟩
    have e2' : (ur.any fun y => eqV y v) = ds.any fun y => eqF y x := e2
    show ((u :: ur).any fun y => eqV y v) = (d :: ds).any fun y => eqF y x
    rw [List.any_cons, List.any_cons, f2 r h, e2']

/-! ### dicts -/
def asK (S : Sto) : DV → Option (List Key × List DV)
  | .dik _ ks ds => some (ks, ds)
  | .loc n => match S[n]? with
    | some (.dik ks ds) => some (ks, ds)
    | some (.frz (.dik _ ks ds)) => some (ks, ds)
    | some (.lok ks ds) => some (ks, ds)
    | _ => none
  | _ => none
/-- .. but not of one that is being walked -/
def asK0 (S : Sto) : DV → Option (List Key × List DV)
  | .dik _ ks ds => some (ks, ds)
  | .loc n => match S[n]? with
    | some (.dik ks ds) => some (ks, ds)
    | some (.frz (.dik _ ks ds)) => some (ks, ds)
    | _ => none
  | _ => none
def asKT (S : Sto) : DV → Option (List (List Key) × List DV)
  | .dit _ ks ds => some (ks, ds)
  | .loc n => match S[n]? with
    | some (.dit ks ds) => some (ks, ds)
    | some (.frz (.dit _ ks ds)) => some (ks, ds)
    | _ => none
  | _ => none
def keyD : DV → Option Key
  | .int i => some (.inl i)
  | .str s => some (.inr s)
  | _ => none
def keysD : List DV → Option (List Key)
  | [] => some []
  | d :: ds => match keyD d with
    | some k => (match keysD ds with
      | some ks => some (k :: ks)
      | none => none)
    | none => none
def keyT : DV → Option (List Key)
  | .tup ds => keysD ds
  | _ => none
def lkD {κ : Type} [DecidableEq κ] : List κ → List DV → κ → Option DV
  | k :: ks, d :: ds, j => if k = j then some d else lkD ks ds j
  | _, _, _ => none
def rpG {κ α : Type} [DecidableEq κ] (j : κ) (x : α) : List κ → List α → List α
  | k :: ks, d :: ds => (if k = j then x else d) :: rpG j x ks ds
  | _, _ => []
def hasK {κ : Type} [DecidableEq κ] (ks : List κ) (j : κ) : Bool := ks.any fun k => decide (k = j)
def putKs {κ : Type} [DecidableEq κ] (ks : List κ) (j : κ) : List κ := if hasK ks j = true then ks else ks ++ [j]
def putVs {κ : Type} [DecidableEq κ] (ks : List κ) (ds : List DV) (j : κ) (x : DV) : List DV := if hasK ks j = true then rpG j x ks ds else ds ++ [x]
section
variable {F : Fm} {S : Sto} {H : Hp} {d : DV} {v : V}
theorem asK_ok (R : Rep F S H) (r : Rel F d v) {ks : List Key} {ds : List DV} (h : asK S d = some (ks, ds)) : ∃ a xs, v = .ref a ∧ ks.length = ds.length ∧ Rd H a (.dK (ks.zip xs)) ∧ RelL F ds xs := by
  cases d with
  | dik k es fs =>
    cases (show some (es, fs) = some (ks, ds) from h)
    obtain ⟨a, xs, rfl, hz, h, rl⟩ := r
    exact ⟨a, xs, rfl, hz, .inl (h.elim (R.g _ _) fun h => R.b _ _ h.2), rl⟩
  | loc n =>
    obtain ⟨a, ha, rfl⟩ := r
    unfold asK at h
    simp only at h
    split at h
    · rename_i es fs hc
      cases h
      obtain ⟨⟨xs, hz, e, rl⟩, _⟩ := R.cell n _ a hc ha
      exact ⟨a, xs, rfl, hz, .inl e, rl⟩
    · rename_i k es fs hc
      cases h
      obtain ⟨rl, _⟩ := R.cell n _ a hc ha
      obtain ⟨b, xs, e1, hz, h, rl⟩ := (show Rel F (.dik k ks ds) (.ref a) from rl)
      cases e1
      exact ⟨a, xs, rfl, hz, .inl (h.elim (R.g _ _) fun h => R.b _ _ h.2), rl⟩
    · rename_i es fs hc
      cases h
      obtain ⟨⟨o, xs, hz, e, rl⟩, _⟩ := R.cell n _ a hc ha
      exact ⟨a, xs, rfl, hz, .inr ⟨o, R.p _ _ e⟩, rl⟩
    · cases h
  | _ => cases h
theorem asK0_ok (R : Rep F S H) (r : Rel F d v) {ks : List Key} {ds : List DV} (h : asK0 S d = some (ks, ds)) : ∃ a xs, v = .ref a ∧ ks.length = ds.length ∧ H a = some (.dK (ks.zip xs)) ∧ RelL F ds xs := by
  cases d with
  | dik k es fs =>
    cases (show some (es, fs) = some (ks, ds) from h)
    obtain ⟨a, xs, rfl, hz, h, rl⟩ := r
    exact ⟨a, xs, rfl, hz, h.elim (R.g _ _) fun h => R.b _ _ h.2, rl⟩
  | loc n =>
    obtain ⟨a, ha, rfl⟩ := r
    unfold asK0 at h
    simp only at h
    split at h
    · rename_i es fs hc
      cases h
      obtain ⟨⟨xs, hz, e, rl⟩, _⟩ := R.cell n _ a hc ha
      exact ⟨a, xs, rfl, hz, e, rl⟩
    · rename_i k es fs hc
      cases h
      obtain ⟨rl, _⟩ := R.cell n _ a hc ha
      obtain ⟨b, xs, e1, hz, h, rl⟩ := (show Rel F (.dik k ks ds) (.ref a) from rl)
      cases e1
      exact ⟨a, xs, rfl, hz, h.elim (R.g _ _) fun h => R.b _ _ h.2, rl⟩
    · cases h
  | _ => cases h
theorem asKT_ok (R : Rep F S H) (r : Rel F d v) {ks : List (List Key)} {ds : List DV} (h : asKT S d = some (ks, ds)) : ∃ a xs, v = .ref a ∧ ks.length = ds.length ∧ H a = some (.dT (ks.zip xs)) ∧ RelL F ds xs := by
  cases d with
  | dit k es fs =>
    cases (show some (es, fs) = some (ks, ds) from h)
    obtain ⟨a, xs, rfl, hz, h, rl⟩ := r
    exact ⟨a, xs, rfl, hz, h.elim (R.g _ _) fun h => R.b _ _ h.2, rl⟩
  | loc n =>
    obtain ⟨a, ha, rfl⟩ := r
    unfold asKT at h
    simp only at h
    split at h
    · rename_i es fs hc
      cases h
      obtain ⟨⟨xs, hz, e, rl⟩, _⟩ := R.cell n _ a hc ha
      exact ⟨a, xs, rfl, hz, e, rl⟩
    · rename_i k es fs hc
      cases h
      obtain ⟨rl, _⟩ := R.cell n _ a hc ha
      obtain ⟨b, xs, e1, hz, h, rl⟩ := (show Rel F (.dit k ks ds) (.ref a) from rl)
      cases e1
      exact ⟨a, xs, rfl, hz, h.elim (R.g _ _) fun h => R.b _ _ h.2, rl⟩
    · cases h
  | _ => cases h
theorem keyD_ok {k : Key} (r : Rel F d v) (h : keyD d = some k) : v = kV k := by
  cases d <;> first
    | (cases h; done)
    | (cases h
       exact r)
theorem keysD_ok : ∀ {ds : List DV} {vs : List V} {ks : List Key}, RelL F ds vs → keysD ds = some ks → vs = ks.map kV
  | [], vs, ks, r, h => by
    cases (show some ([] : List Key) = some ks from h)
    exact r
  | d :: ds, vs, ks, r, h => by
    obtain ⟨x, xr, rfl, h1, h2⟩ := r
    unfold keysD at h
    split at h
    · rename_i k hk
      split at h
      · rename_i ks' hks
        cases h
        rw [keyD_ok h1 hk, keysD_ok h2 hks] <;> rfl
      · cases h
    · cases h
theorem lk_ok {κ : Type} [DecidableEq κ] (j : κ) : ∀ {ks : List κ} {ds : List DV} {xs : List V}, RelL F ds xs → (∀ {e : DV}, lkD ks ds j = some e → ∃ x, valV (ks.zip xs) j = some x ∧ Rel F e x) ∧ (ks.length = ds.length → lkD ks ds j = none → valV (ks.zip xs) j = none)
  | [], ds, xs, r => by
    refine ⟨fun {e} h => ?_, fun _ _ => ?_⟩
    · unfold lkD at h
      cases h
    · rw [List.zip_nil_left] <;> rfl
  | k :: ks, [], xs, r => by
    refine ⟨fun {e} h => ?_, fun h => ?_⟩
    · unfold lkD at h
      cases h
    · cases h
  | k :: ks, d :: ds, xs, r => by
    obtain ⟨x, xr, rfl, h1, h2⟩ := r
    obtain ⟨i1, i2⟩ := lk_ok j (ks := ks) h2
    rw [List.zip_cons_cons]
    by_cases q : k = j
    · refine ⟨fun {e} h => ?_, fun _ h => ?_⟩
      · unfold lkD at h
        rw [if_pos q] at h
        cases h
        exact ⟨x, valV_pos q, h1⟩
      · unfold lkD at h
        rw [if_pos q] at h
        cases h
    · refine ⟨fun {e} h => ?_, fun hl h => ?_⟩
      · unfold lkD at h
        rw [if_neg q] at h
        obtain ⟨y, y1, y2⟩ := i1 h
        exact ⟨y, by rw [valV_neg q]; exact y1, y2⟩
      · unfold lkD at h
        rw [if_neg q] at h
        rw [valV_neg q]
        exact i2 (Nat.succ.inj hl) h
end
/-- what a dict has for a key: none: this is no dict or no key -/
def getD (S : Sto) (x k : DV) : Option (Option DV) := match asK S x, keyD k with
  | some (ks, ds), some j => some (lkD ks ds j)
  | _, _ => (match asKT S x, keyT k with
    | some (ks, ds), some j => some (lkD ks ds j)
    | _, _ => none)
theorem getD_ok {F : Fm} {S : Sto} {H : Hp} {x k : DV} {vx vk : V} {o : Option DV} (R : Rep F S H) (rx : Rel F x vx) (rk : Rel F k vk) (h : getD S x k = some o) : ∃ a r, vx = .ref a ∧ DGet H a vk r ∧ (∀ {d}, o = some d → ∃ v, r = some v ∧ Rel F d v) ∧ (o = none → r = none) := by
  unfold getD at h
  split at h
  · rename_i ks ds j h1 h2
    cases h
    obtain ⟨a, xs, rfl, hz, e, rl⟩ := asK_ok R rx h1
    obtain rfl := keyD_ok rk h2
    obtain ⟨i1, i2⟩ := lk_ok (F := F) j (ks := ks) rl
    exact ⟨a, _, rfl, .inl ⟨_, _, e, rfl, rfl⟩, fun {d} q => i1 q, fun q => i2 hz q⟩
  · split at h
    · rename_i ks ds j h1 h2
      cases h
      obtain ⟨a, xs, rfl, hz, e, rl⟩ := asKT_ok R rx h1
      unfold keyT at h2
      split at h2
      · rename_i es
        obtain ⟨b, us, rfl, hH, rb⟩ := tup_at R rk
        obtain rfl := keysD_ok rb h2
        obtain ⟨i1, i2⟩ := lk_ok (F := F) j (ks := ks) rl
        exact ⟨a, _, rfl, .t e hH, fun {d} q => i1 q, fun q => i2 hz q⟩
      · cases h2
    · cases h
end Dn

namespace Dn
open PySem PySem.Spec PyProof.Rows L2

/-! ### in, not in -/
def pIn (neg : Bool) : P2 := fun x y S => match y with
  | .str b => (match x with
    | .str a => (match a.cps.toList with
      | [c] => some (.bl (if neg then !decide (c ∈ b.cps.toList) else decide (c ∈ b.cps.toList)), S)
      | _ => none)
    | _ => none)
  | .tup ds => if flD x = true ∧ ds.all flD = true then some (.bl (if neg then !inD x ds else inD x ds), S) else none
  | .tupx ds => if flD x = true ∧ ds.all flD = true then some (.bl (if neg then !inD x ds else inD x ds), S) else none
  | y => (match asL S y with
    | some ds => if flD x = true ∧ ds.all flD = true then some (.bl (if neg then !inD x ds else inD x ds), S) else
      (match cpD true S x, cpL true S ds with
      | some x', some ds' => (match toPy x', toPyL ds' with
        | some d, some es => if SeqAt.shaped d = true ∧ SeqAt.shaped (.list es) = true then some (.bl (if neg then !es.any (fun z => PyData.eqv z d) else es.any (fun z => PyData.eqv z d)), S) else none
        | _, _ => none)
      | _, _ => none)
    | none => (match getD S y x with
      | some o => some (.bl (if neg then !o.isSome else o.isSome), S)
      | none => none))
abbrev rInSign (neg : Bool) : R2 := fun x y H Q => ∃ (c : Nat) (z : Str), x = .str ⟨#[c]⟩ ∧ y = .str z ∧ Q (.bl (if neg then !decide (c ∈ z.cps.toList) else decide (c ∈ z.cps.toList))) H
abbrev rInSeq3 (K : PySem.W.Frag) (neg : Bool) : R2 := fun x y H Q => rInSign neg x y H Q ∨ (fun x y H Q => rIn K neg x y H Q ∨ (fun x y H Q => ∃ d ds, Dp K H x d ∧ Dp K H y (.list ds) ∧ SeqAt.shaped d = true ∧ SeqAt.shaped (.list ds) = true ∧ Q (.bl (if neg then !ds.any (fun z => PyData.eqv z d) else ds.any fun z => PyData.eqv z d)) H) x y H Q) x y H Q
abbrev rDIn (neg : Bool) : R2 := fun y x H Q => ∃ a o, x = .ref a ∧ DGet H a y o ∧ Q (.bl (if neg then !o.isSome else o.isSome)) H
theorem str_one {a : Str} {c : Nat} (h : a.cps.toList = [c]) : a = ⟨#[c]⟩ := by
  apply TL.ext_tl
  exact h
theorem ok_in {K : PySem.W.Frag} {neg : Bool} : Ok2 K (pIn neg) (fun x y H Q => rInSeq3 K neg x y H Q ∨ rDIn neg x y H Q) := fun F S H x y vx vy d S' Q hk R rx ry hp hq => by
  unfold pIn at hp
  split at hp
  · rename_i b
    split at hp
    · rename_i a
      split at hp
      · rename_i c hc
        cases hp
        refine .inl (.inl ⟨c, b, ?_, ry, hq F H _ (.refl F) R rfl⟩)
        rw [show vx = .str a from rx, str_one hc]
      · cases hp
    · cases hp
  · rename_i ds
    obtain ⟨⟨h1, h2⟩, h3⟩ := of_ite hp
    cases h3
    obtain ⟨a, xs, rfl, hs, rl⟩ := tup_sq R ry
    rw [hk] at hs
    obtain ⟨e1, e2⟩ := inD_ok rx h1 rl h2
    exact .inl (.inr (.inl ⟨a, xs, rfl, .inr hs, (flD_ok rx h1).1, e1, by rw [e2]; exact hq F H _ (.refl F) R rfl⟩))
  · rename_i ds
    obtain ⟨⟨h1, h2⟩, h3⟩ := of_ite hp
    cases h3
    obtain ⟨a, xs, rfl, hs, rl⟩ := tupx_sq R ry
    rw [hk] at hs
    obtain ⟨e1, e2⟩ := inD_ok rx h1 rl h2
    exact .inl (.inr (.inl ⟨a, xs, rfl, .inr hs, (flD_ok rx h1).1, e1, by rw [e2]; exact hq F H _ (.refl F) R rfl⟩))
  · split at hp
    · rename_i ds hL
      obtain ⟨a, xs, rfl, hs, rl⟩ := asL_sq R ry hL
      split at hp
      · rename_i hfl
        cases hp
        rw [hk] at hs
        obtain ⟨e1, e2⟩ := inD_ok rx hfl.1 rl hfl.2
        exact .inl (.inr (.inl ⟨a, xs, rfl, .inl hs, (flD_ok rx hfl.1).1, e1, by rw [e2]; exact hq F H _ (.refl F) R rfl⟩))
      · split at hp
        · rename_i x' ds' hx hds
          split at hp
          · rename_i d0 es hd0 hes
            obtain ⟨⟨s1, s2⟩, h3⟩ := of_ite hp
            cases h3
            have r1 : RelL ⟨F.K, F.G, H, fun _ => none, []⟩ [x'] [vx] := cpL_bor R (ds := [x]) (by unfold cpL mapDL mapDL; rw [show mapD true _ x = some x' from hx]) ⟨vx, [], rfl, rx, rfl⟩
            obtain ⟨_, _, e1, r1, _⟩ := r1
            cases e1
            have r2 := cpL_bor R hds rl
            have d1 := toPy_dp (F := ⟨F.K, F.G, H, fun _ => none, []⟩) R.g (Same.refl _) x' vx d0 r1 hd0
            have d2 := toPyL_dp (F := ⟨F.K, F.G, H, fun _ => none, []⟩) R.g (Same.refl _) ds' xs es r2 hes
            have k1 : Dp K H vx d0 := by rw [← hk]; exact d1
            have k2 : DpAll K H xs es := by rw [← hk]; exact d2
            rw [hk] at hs
            exact .inl (.inr (.inr ⟨d0, es, k1, .lst hs k2, s1, s2, hq F H _ (.refl F) R rfl⟩))
          · cases hp
        · cases hp
    · split at hp
      · rename_i o ho
        cases hp
        obtain ⟨a, r, rfl, hg, i1, i2⟩ := getD_ok R ry rx ho
        refine .inr ⟨a, r, rfl, hg, ?_⟩
        have e : r.isSome = o.isSome := by
          cases o with
          | none => rw [i2 rfl] <;> rfl
          | some d =>
            obtain ⟨v, e1, _⟩ := i1 rfl
            rw [e1] <;> rfl
        rw [e]
        exact hq F H _ (.refl F) R rfl
      · cases hp
section
variable {X : Cx} {a b : Expr} {f g : DE} {pos : Pos}
theorem op_in3 (hu : X.A.units + 64 + 1 < cLine) : OpR X (compareOp .In) (rInSeq3 X.K false) := op_in_sign.or (op_in_seq.or (op_inD (by omega)))
theorem op_notin3 (hu : X.A.units + 64 + 1 < cLine) : OpR X (compareOp .NotIn) (rInSeq3 X.K true) := op_notIn_sign.or (op_notIn_seq.or (op_notInD (by omega)))
theorem op_dIn (hu : X.A.units + 1 < cLine) : OpR X (compareOp .In) (rDIn false) := fun pins s σ H x y v u Q I rx ry h => by
  obtain ⟨d, o, rfl, g, q⟩ := h
  obtain rfl : u = Value.ref d := ry
  exact d_in hu I g rx fun s' I' => ⟨.bl o.isSome, H, I', rfl, q⟩
theorem op_dNotIn (hu : X.A.units + 1 < cLine) : OpR X (compareOp .NotIn) (rDIn true) := fun pins s σ H x y v u Q I rx ry h => by
  obtain ⟨d, o, rfl, g, q⟩ := h
  obtain rfl : u = Value.ref d := ry
  exact d_notIn hu I g rx fun s' I' => ⟨.bl (!o.isSome), H, I', rfl, q⟩
theorem hu65 {k : Nat} {A : Around} (hr : Room k A) : A.units + 64 + 1 < cLine := by have := hr.un; omega
theorem hu1 {k : Nat} {A : Around} (hr : Room k A) : A.units + 1 < cLine := by have := hr.un; omega
theorem hu64 {k : Nat} {A : Around} (hr : Room k A) : A.units + 64 < cLine := by have := hr.un; omega
theorem td_in {k : Nat} (hr : Room k X.A) (ha : ED X a f) (hb : ED X b g) (hm : behindInMarks .In b = false) : TD X (.Compare a [.In] [b] pos) (dBin (pIn false) f g) := td_cmp ((op_in3 (hu65 hr)).or (op_dIn (hu1 hr))) ok_in ha hb hm
theorem td_notin {k : Nat} (hr : Room k X.A) (ha : ED X a f) (hb : ED X b g) (hm : behindInMarks .NotIn b = false) : TD X (.Compare a [.NotIn] [b] pos) (dBin (pIn true) f g) := td_cmp ((op_notin3 (hu65 hr)).or (op_dNotIn (hu1 hr))) ok_in ha hb hm
/-! comparisons in short -/
theorem ed_eq {k : Nat} (hr : Room k X.A) (ha : ED X a f) (hb : ED X b g) : ED X (.Compare a [.Eq] [b] pos) (dBin (pEq false) f g) := ed_cmp (op_eq.or (op_eqD (hu64 hr))) ok_eq ha hb (nomark _)
theorem td_eq {k : Nat} (hr : Room k X.A) (ha : ED X a f) (hb : ED X b g) : TD X (.Compare a [.Eq] [b] pos) (dBin (pEq false) f g) := td_cmp (op_eq.or (op_eqD (hu64 hr))) ok_eq ha hb (nomark _)
theorem td_ne {k : Nat} (hr : Room k X.A) (ha : ED X a f) (hb : ED X b g) : TD X (.Compare a [.NotEq] [b] pos) (dBin (pEq true) f g) := td_cmp (op_ne.or (op_neD (hu64 hr))) ok_ne ha hb (nomark _)
theorem td_lt (ha : ED X a f) (hb : ED X b g) : TD X (.Compare a [.Lt] [b] pos) (dBin pLt f g) := td_cmp op_lt ok_cmp ha hb (nomark _)
theorem ed_gt (ha : ED X a f) (hb : ED X b g) : ED X (.Compare a [.Gt] [b] pos) (dBin pGt f g) := ed_cmp op_gt ok_cmp ha hb (nomark _)
theorem td_gt (ha : ED X a f) (hb : ED X b g) : TD X (.Compare a [.Gt] [b] pos) (dBin pGt f g) := td_cmp op_gt ok_cmp ha hb (nomark _)
theorem ed_is (ha : ED X a f) (hb : ED X b g) : ED X (.Compare a [.Is] [b] pos) (dBin (pIs false) f g) := ed_cmp op_isN ok_is ha hb (nomark _)
theorem td_isnot (ha : ED X a f) (hb : ED X b g) : TD X (.Compare a [.IsNot] [b] pos) (dBin (pIs true) f g) := td_cmp op_notN ok_isnot ha hb (nomark _)
theorem ed_add (ha : ED X a f) (hb : ED X b g) : ED X (.BinOp a .Add b pos) (dBin pAdd f g) := ed_bin op_addAll ok_add ha hb
theorem ed_mul (ha : ED X a f) (hb : ED X b g) : ED X (.BinOp a .Mult b pos) (dBin pMul f g) := ed_bin op_mulAll ok_mul ha hb
end

/-! ### subscripts -/
def atD (ds : List DV) (i : Int) : Option DV := (ixN ds.length i).bind fun j => ds[j]?
theorem atD_ok {F : Fm} {ds : List DV} {xs : List V} {i : Int} {d : DV} (r : RelL F ds xs) (h : atD ds i = some d) : ∃ v, atI xs i = some v ∧ Rel F d v := by
  unfold atD at h
  unfold atI
  rw [← r.length]
  cases e : ixN ds.length i with
  | none =>
    rw [e] at h
    cases h
  | some j =>
    rw [e] at h
    exact r.get (i := j) h
def pIx : P2 := fun x y S => match y with
  | .int i => (match x with
    | .tup ds => (match atD ds i with
      | some d => some (d, S)
      | none => none)
    | .tupx ds => (match atD ds i with
      | some d => some (d, S)
      | none => none)
    | .str s => if s.length ≤ sizeLine then (match atI s.cps.toList i with
      | some c => some (.str ⟨#[c]⟩, S)
      | none => none) else none
    | x => (match asL S x with
      | some ds => (match atD ds i with
        | some d => some (d, S)
        | none => none)
      | none => (match getD S x y with
        | some (some d) => some (d, S)
        | _ => none)))
  | y => (match getD S x y with
    | some (some d) => some (d, S)
    | _ => none)
abbrev rDIx : R2 := fun x y H Q => ∃ a v, x = .ref a ∧ DGet H a y (some v) ∧ Q v H
theorem ix_dict {X : Cx} (hu : X.A.units + 1 < cLine) : IxR X rDIx := by
  intro value slice pins s σ H x y v u Q I rx ry h hs
  obtain ⟨a, z, rfl, g, q⟩ := h
  obtain rfl : v = Value.ref a := rx
  have hT := dict_typeIs I g
  have hget : wpAny (model X.prog X.w) X.A (getItem (.ref a) u) (EP X pins σ Q) X.xe s := d_getItem hu I g ry fun w' s3 I3 rw' => ⟨z, H, I3, rw', q⟩
  unfold subscriptTail
  refine wpAny_bind ?_
  rw [getitemInPython_of_ne hT.not_modules]
  refine wpAny_bind (wpAny_specialOf hT PySem.F.slot_dict_getitem.lookup ?_)
  have fin : wpAny (model X.prog X.w) X.A (subscripted slice false (.ref a) u) (fun r s₃ => wpAny (model X.prog X.w) X.A (letTemporaryGo value (.ref a) r >>= fun _ => pure r) (EP X pins σ Q) X.xe s₃) X.xe s := by
    rw [hs]
    exact wpAny_operating (wpAny_mono hget (fun r s₃ h₃ => wpAny_bind (wpAny_letTemporaryGo (wpAny_pure h₃))) fun _ _ x => x)
  first
    | exact wpAny_pure (wpAny_bind fin)
    | exact wpAny_bind (wpAny_pure (wpAny_bind fin))
    | exact wpAny_bind fin
theorem ok_ix {K : PySem.W.Frag} : Ok2 K pIx (fun x y H Q => rIx K x y H Q ∨ rDIx x y H Q) := fun F S H x y vx vy d S' Q hk R rx ry hp hq => by
  have dict : ∀ {o : Option DV}, getD S x y = some o → (∀ e, o = some e → e = d) → S' = S → o.isSome = true → rDIx vx vy H Q := fun {o} h1 h2 h3 h4 => by
    subst h3
    obtain ⟨a, r, rfl, hg, i1, _⟩ := getD_ok R rx ry h1
    cases o with
    | none => cases h4
    | some e =>
      obtain ⟨v, rfl, e2⟩ := i1 rfl
      have := h2 e rfl
      subst this
      exact ⟨a, v, rfl, hg, hq F H _ (.refl F) R e2⟩
  unfold pIx at hp
  split at hp
  · rename_i i
    split at hp
    · split at hp
      · rename_i e he
        cases hp
        obtain ⟨a, xs, rfl, hs, rl⟩ := tup_sq R rx
        rw [hk] at hs
        obtain ⟨v, e1, e2⟩ := atD_ok rl he
        exact .inl (.inr (.inl ⟨a, xs, i, v, rfl, ry, hs, e1, hq F H _ (.refl F) R e2⟩))
      · cases hp
    · split at hp
      · rename_i e he
        cases hp
        obtain ⟨a, xs, rfl, hs, rl⟩ := tupx_sq R rx
        rw [hk] at hs
        obtain ⟨v, e1, e2⟩ := atD_ok rl he
        exact .inl (.inr (.inl ⟨a, xs, i, v, rfl, ry, hs, e1, hq F H _ (.refl F) R e2⟩))
      · cases hp
    · obtain ⟨h1, hp⟩ := of_ite hp
      split at hp
      · rename_i c hc
        cases hp
        exact .inl (.inr (.inr ⟨_, i, c, rx, ry, h1, hc, hq F H _ (.refl F) R rfl⟩))
      · cases hp
    · split at hp
      · rename_i ds hL
        split at hp
        · rename_i e he
          cases hp
          obtain ⟨a, xs, rfl, hs, rl⟩ := asL_sq R rx hL
          rw [hk] at hs
          obtain ⟨v, e1, e2⟩ := atD_ok rl he
          exact .inl (.inl ⟨a, xs, i, v, rfl, ry, hs, e1, hq F H _ (.refl F) R e2⟩)
        · cases hp
      · split at hp
        · rename_i e he
          cases hp
          exact .inr (dict he (fun e q => (Option.some.inj q).symm) rfl rfl)
        · cases hp
  · split at hp
    · rename_i e he
      cases hp
      exact .inr (dict he (fun e q => (Option.some.inj q).symm) rfl rfl)
    · cases hp
section
variable {X : Cx} {a b e : Expr} {f g : DE} {pos : Pos}
theorem ed_ix {k : Nat} (hr : Room k X.A) (ha : ED X a f) (hb : ED X b g) (hs : PlainIx b) : ED X (.Subscript a b pos) (dBin pIx f g) :=
  .of (pe_ix (IxR.or ix_seq (ix_dict (hu1 hr))) ha.pe hb.pe hs) fun F S H ρ σ d S' Q hk R rr hf hq => bin_go ok_ix hk R rr hf hq

/-! ### slices -/
def cutD (ds : List DV) (lo hi : Option Int) : List DV := (ds.drop (HT.sIx ds.length 0 lo)).take (HT.sIx ds.length ds.length hi - HT.sIx ds.length 0 lo)
theorem cutD_ok {F : Fm} {ds : List DV} {xs : List V} {lo hi : Option Int} (r : RelL F ds xs) : RelL F (cutD ds lo hi) (cutV xs lo hi) := by
  unfold cutD cutV
  rw [r.length]
  exact (r.drop _).take _
abbrev DO := Ev → Sto → Option (Option Int × Sto)
def oNone : DO := fun _ S => some (none, S)
def oSome (f : DE) : DO := fun ρ S => match f ρ S with
  | some (.int i, S1) => some (some i, S1)
  | _ => none
structure OD (X : Cx) (e : Option Expr) (t : TO) (f : DO) : Prop where
  po : PO X e t
  go : ∀ F S H ρ σ o S' (Q : Option Int → Hp → Prop), F.K = X.K → Rep F S H → RelE F ρ σ → f ρ S = some (o, S') → (∀ F' H', Le F F' → F'.K = X.K → Rep F' S' H' → RelE F' ρ σ → Q o H') → t σ H Q
theorem od_none : OD X none tNoPart oNone := ⟨po_none, fun F S H ρ σ o S' Q hk R rr hf hq => by
  cases (show some ((none : Option Int), S) = some (o, S') from hf)
  exact hq F H (.refl F) hk R rr⟩
theorem od_some (h : ED X e f) : OD X (some e) (tPart (rdE X.K f)) (oSome f) := ⟨po_some h.pe, fun F S H ρ σ o S' Q hk R rr hf hq => by
  unfold oSome at hf
  split at hf
  · rename_i i S1 h1
    cases hf
    exact rdE.go hk R rr h1 fun F1 H1 v le hk1 R1 r1 rv => ⟨i, rv, hq F1 H1 le hk1 R1 r1⟩
  · cases hf⟩
def pSl (x : DV) (lo hi : Option Int) (S : Sto) : Option (DV × Sto) := match x with
  | .tup ds => some (.tup (cutD ds lo hi), S)
  | .str s => if s.length ≤ sizeLine then some (.str (cutS s lo hi), S) else none
  | x => (match asL S x with
    | some ds => some (.lst .own (cutD ds lo hi), S)
    | none => none)
def dSl (p : DV → Option Int → Option Int → Sto → Option (DV × Sto)) (f : DE) (lo hi : DO) : DE := fun ρ S => match f ρ S with
  | some (x, S1) => (match lo ρ S1 with
    | some (l, S2) => (match hi ρ S2 with
      | some (u, S3) => p x l u S3
      | none => none)
    | none => none)
  | none => none
def OkSl (K : PySem.W.Frag) (p : DV → Option Int → Option Int → Sto → Option (DV × Sto)) (r : V → Option Int → Option Int → Hp → VK → Prop) : Prop :=
  ∀ F S H x vx lo hi d S' Q, F.K = K → Rep F S H → Rel F x vx → p x lo hi S = some (d, S') → PostE F S' d Q → r vx lo hi H Q
theorem sl_go {K : PySem.W.Frag} {p : DV → Option Int → Option Int → Sto → Option (DV × Sto)} {r : V → Option Int → Option Int → Hp → VK → Prop} {lo hi : Option Expr} {tl th : TO} {l u : DO} (hp : OkSl X.K p r) (h1 : OD X lo tl l) (h2 : OD X hi th u) {F : Fm} {S S' : Sto} {H : Hp} {ρ : Ev} {σ : L2.St} {d : DV} {Q : VK}
    (hk : F.K = X.K) (R : Rep F S H) (rr : RelE F ρ σ) (hf : dSl p f l u ρ S = some (d, S')) (hq : PostE F S' d Q) : tSl r (rdE X.K f) tl th σ H Q := by
  unfold dSl at hf
  split at hf
  · rename_i x S1 e1
    split at hf
    · rename_i l1 S2 e2
      split at hf
      · rename_i u1 S3 e3
        exact rdE.go hk R rr e1 fun F1 H1 v le hk1 R1 r1 rv => h1.go F1 S1 H1 ρ σ l1 S2 _ hk1 R1 r1 e2 fun F2 H2 le2 hk2 R2 r2 => h2.go F2 S2 H2 ρ σ u1 S3 _ hk2 R2 r2 e3 fun F3 H3 le3 hk3 R3 r3 =>
          hp F3 S3 H3 x v l1 u1 d S' Q hk3 R3 (rv.le (le2.trans le3)) hf (hq.le ((le.trans le2).trans le3))
      · cases hf
    · cases hf
  · cases hf
theorem ok_sl {K : PySem.W.Frag} : OkSl K pSl (fun x lo hi H Q => rSlL K x lo hi H Q ∨ (fun x lo hi H Q => rSlA K x lo hi H Q ∨ rSlS x lo hi H Q) x lo hi H Q) := fun F S H x vx lo hi d S' Q hk R rx hp hq => by
  unfold pSl at hp
  split at hp
  · rename_i ds
    cases hp
    obtain ⟨a, xs, e, hs, rl⟩ := tup_sq R rx
    rw [hk] at hs
    refine .inr (.inl ⟨a, xs, e, hs, fun hw => ?_, fun _ => new_tup R (cutD_ok rl) hq⟩)
    refine hq F H _ (.refl F) R ?_
    have e2 : cutD ds lo hi = ds := by
      unfold cutD
      rw [rl.length, hw.1, hw.2]
      rw [List.drop_zero, Nat.sub_zero, ← rl.length, List.take_length]
    rw [e2, ← e]
    exact rx
  · obtain ⟨h1, h2⟩ := of_ite hp
    cases h2
    exact .inr (.inr ⟨_, rx, h1, hq F H _ (.refl F) R rfl⟩)
  · split at hp
    · rename_i ds hL
      cases hp
      obtain ⟨a, xs, rfl, hs, rl⟩ := asL_sq R rx hL
      rw [hk] at hs
      exact .inl ⟨a, xs, rfl, hs, new_lst R (cutD_ok rl) hq⟩
    · cases hp
theorem ed_sl {lo hi : Option Expr} {tl th : TO} {l u : DO} {p2 : Pos} (ha : ED X a f) (h1 : OD X lo tl l) (h2 : OD X hi th u) : ED X (.Subscript a (.Slice lo hi none p2) pos) (dSl pSl f l u) :=
  .of (pe_slice (sl_list.or (sl_tupA.or sl_str)) ha.pe h1.po h2.po) fun F S H ρ σ d S' Q hk R rr hf hq => sl_go (K := X.K) ok_sl h1 h2 hk R rr hf hq
end
end Dn

namespace Dn
open PySem PySem.Spec PyProof.Rows L2

/-! ### built-ins -/
def pLen : PL := fun xs S => match xs with
  | [.str s] => if s.length ≤ sizeLine then some (.int s.length, S) else none
  | [.tup ds] => some (.int ds.length, S)
  | [.tupx ds] => some (.int ds.length, S)
  | [x] => (match asL S x with
    | some ds => some (.int ds.length, S)
    | none => (match asK0 S x with
      | some (ks, _) => some (.int ks.length, S)
      | none => (match asKT S x with
        | some (ks, _) => some (.int ks.length, S)
        | none => none)))
  | _ => none
abbrev rLenAll (K : PySem.W.Frag) : List V → Hp → VK → Prop := fun xs H Q => (∃ x n, xs = [x] ∧ LenV K x H n ∧ Q (.int n) H) ∨ (fun xs H Q => (∃ a kvs, xs = [V.ref a] ∧ H a = some (.dK kvs) ∧ Q (.int kvs.length) H) ∨ rLenT xs H Q) xs H Q
theorem call_lenAll {X : Cx} : CallR X (.builtin "len") (rLenAll X.K) := call_len.or (call_lenD.or call_len_dT)
theorem ok_len {K : PySem.W.Frag} : OkL K pLen (rLenAll K) := fun F S H xs vs d S' Q hk R r hp hq => by
  unfold pLen at hp
  split at hp
  · rename_i s
    obtain ⟨h1, h2⟩ := of_ite hp
    cases h2
    obtain ⟨v, _, rfl, rv, e⟩ := r
    obtain rfl := (show _ = [] from e)
    exact .inl ⟨v, s.length, rfl, by rw [show v = .str s from rv]; exact ⟨h1, rfl⟩, hq F H _ (.refl F) R rfl⟩
  · rename_i ds
    cases hp
    obtain ⟨v, _, rfl, rv, e⟩ := r
    obtain rfl := (show _ = [] from e)
    obtain ⟨a, us, rfl, hs, rl⟩ := tup_sq R rv
    rw [hk] at hs
    exact .inl ⟨_, us.length, rfl, .inr ⟨us, hs, rfl⟩, by rw [← rl.length]; exact hq F H _ (.refl F) R rfl⟩
  · rename_i ds
    cases hp
    obtain ⟨v, _, rfl, rv, e⟩ := r
    obtain rfl := (show _ = [] from e)
    obtain ⟨a, us, rfl, hs, rl⟩ := tupx_sq R rv
    rw [hk] at hs
    exact .inl ⟨_, us.length, rfl, .inr ⟨us, hs, rfl⟩, by rw [← rl.length]; exact hq F H _ (.refl F) R rfl⟩
  · obtain ⟨v, _, rfl, rv, e⟩ := r
    obtain rfl := (show _ = [] from e)
    split at hp
    · rename_i ds hL
      cases hp
      obtain ⟨a, us, rfl, hs, rl⟩ := asL_sq R rv hL
      rw [hk] at hs
      exact .inl ⟨_, us.length, rfl, .inl ⟨us, hs, rfl⟩, by rw [← rl.length]; exact hq F H _ (.refl F) R rfl⟩
    · split at hp
      · rename_i ks ds hK
        cases hp
        obtain ⟨a, us, rfl, hz, hs, rl⟩ := asK0_ok R rv hK
        refine .inr (.inl ⟨a, _, rfl, hs, ?_⟩)
        have e : (ks.zip us).length = ks.length := by
          rw [List.length_zip, ← rl.length, hz, Nat.min_self]
        rw [e]
        exact hq F H _ (.refl F) R rfl
      · split at hp
        · rename_i ks ds hK
          cases hp
          obtain ⟨a, us, rfl, hz, hs, rl⟩ := asKT_ok R rv hK
          refine .inr (.inr ⟨a, _, rfl, hs, ?_⟩)
          have e : (ks.zip us).length = ks.length := by
            rw [List.length_zip, ← rl.length, hz, Nat.min_self]
          rw [e]
          exact hq F H _ (.refl F) R rfl
        · cases hp
  · cases hp
/-- int(..) of an int, a truth, a text -/
def pInt : PL := fun xs S => match xs with
  | [.int i] => some (.int i, S)
  | [.bl b] => some (.int (if b then 1 else 0), S)
  | [.str a] => if a.length ≤ 640 then (match PySem.intText? a with
    | some n => some (.int n, S)
    | none => none) else none
  | _ => none
theorem rel1 {F : Fm} {d : DV} {v : V} (h : Rel F d v) : RelL F [d] [v] := ⟨v, [], rfl, h, rfl⟩
theorem one {F : Fm} {d : DV} {vs : List V} (r : RelL F [d] vs) : ∃ v, vs = [v] ∧ Rel F d v := by
  obtain ⟨v, _, rfl, rv, e⟩ := r
  obtain rfl := (show _ = [] from e)
  exact ⟨v, rfl, rv⟩
theorem two {F : Fm} {d e : DV} {vs : List V} (r : RelL F [d, e] vs) : ∃ v u, vs = [v, u] ∧ Rel F d v ∧ Rel F e u := by
  obtain ⟨v, _, rfl, rv, r⟩ := r
  obtain ⟨u, rfl, ru⟩ := one r
  exact ⟨v, u, rfl, rv, ru⟩
abbrev rIntAll : List V → Hp → VK → Prop := fun xs H Q => ((∃ i, xs = [.int i] ∧ Q (.int i) H) ∨ ∃ k, xs = [.bl k] ∧ Q (.int (if k then 1 else 0)) H) ∨ (∃ a n, xs = [.str a] ∧ PySem.intText? a = some n ∧ a.length ≤ 640 ∧ Q (.int n) H)
theorem call_intAll {X : Cx} : CallR X (.type "int") rIntAll := call_int1.or call_int_str
theorem ok_int {K : PySem.W.Frag} : OkL K pInt rIntAll := fun F S H xs vs d S' Q hk R r hp hq => by
  unfold pInt at hp
  split at hp
  · rename_i i
    cases hp
    obtain ⟨v, rfl, rv⟩ := one r
    obtain rfl := (show v = .int i from rv)
    exact .inl (.inl ⟨i, rfl, hq F H _ (.refl F) R rfl⟩)
  · rename_i b
    cases hp
    obtain ⟨v, rfl, rv⟩ := one r
    obtain rfl := (show v = .bl b from rv)
    exact .inl (.inr ⟨b, rfl, hq F H _ (.refl F) R rfl⟩)
  · rename_i a
    obtain ⟨h1, hp⟩ := of_ite hp
    split at hp
    · rename_i n hn
      cases hp
      obtain ⟨v, rfl, rv⟩ := one r
      obtain rfl := (show v = .str a from rv)
      exact .inr ⟨a, n, rfl, hn, h1, hq F H _ (.refl F) R rfl⟩
    · cases hp
  · cases hp
/-- list(..), tuple(..) -/
def kdv : Key → DV
  | .inl i => .int i
  | .inr s => .str s
def itemsD (S : Sto) (x : DV) : Option (List DV) := match x with
  | .tup ds => some ds
  | .tupx ds => some ds
  | x => asL S x
def pList : PL := fun xs S => match xs with
  | [x] => (match itemsD S x with
    | some ds => some (.lst .own ds, S)
    | none => (match asK0 S x with
      | some (ks, _) => some (.lst .own (ks.map kdv), S)
      | none => none))
  | _ => none
def pTuple : PL := fun xs S => match xs with
  | [.tup ds] => some (.tup ds, S)
  | [x] => (match asL S x with
    | some ds => some (.tup ds, S)
    | none => none)
  | _ => none
theorem itemsD_sq {F : Fm} {S : Sto} {H : Hp} {x : DV} {v : V} {ds : List DV} (R : Rep F S H) (r : Rel F x v) (h : itemsD S x = some ds) : ∃ a xs, v = .ref a ∧ (SqL F.K H a xs ∨ SqT F.K H a xs) ∧ RelL F ds xs := by
  unfold itemsD at h
  split at h
  · cases h
    obtain ⟨a, us, rfl, hs, rl⟩ := tup_sq R r
    exact ⟨a, us, rfl, .inr hs, rl⟩
  · cases h
    obtain ⟨a, us, rfl, hs, rl⟩ := tupx_sq R r
    exact ⟨a, us, rfl, .inr hs, rl⟩
  · obtain ⟨a, us, rfl, hs, rl⟩ := asL_sq R r h
    exact ⟨a, us, rfl, .inl hs, rl⟩
theorem zip_keys {κ : Type} : ∀ {ks : List κ} {us : List V}, ks.length = us.length → (ks.zip us).map (·.1) = ks
  | [], _, _ => by rw [List.zip_nil_left] <;> rfl
  | k :: ks, [], h => by cases h
  | k :: ks, u :: us, h => by
    rw [List.zip_cons_cons, List.map_cons, zip_keys (Nat.succ.inj h)]
abbrev rTupAll (K : PySem.W.Frag) : List V → Hp → VK → Prop := fun xs H Q => ∃ p ys, xs = [.ref p] ∧ ((SqL K H p ys ∧ ∀ l, H l = none → Q (.ref l) (upd H l (.tup ys))) ∨ (SqT K H p ys ∧ Q (.ref p) H))
theorem ok_tuple {K : PySem.W.Frag} : OkL K pTuple (rTupAll K) := fun F S H xs vs d S' Q hk R r hp hq => by
  unfold pTuple at hp
  split at hp
  · rename_i ds
    cases hp
    obtain ⟨v, rfl, rv⟩ := one r
    obtain ⟨a, us, e, hs, rl⟩ := tup_sq R rv
    rw [hk] at hs
    exact ⟨a, us, by rw [e], .inr ⟨hs, by rw [← e]; exact hq F H _ (.refl F) R rv⟩⟩
  · obtain ⟨v, rfl, rv⟩ := one r
    split at hp
    · rename_i ds hL
      cases hp
      obtain ⟨a, us, rfl, hs, rl⟩ := asL_sq R rv hL
      rw [hk] at hs
      exact ⟨a, us, rfl, .inl ⟨hs, new_tup R rl hq⟩⟩
    · cases hp
  · cases hp
/-! isinstance(x, T), T a built-in class -/
inductive Ty7 where
  | non | bool | int | str | list | tuple | dict
  deriving DecidableEq
def Ty7.name : Ty7 → String
  | .non => "NoneType"
  | .bool => "bool"
  | .int => "int"
  | .str => "str"
  | .list => "list"
  | .tuple => "tuple"
  | .dict => "dict"
def isT : Ty7 → Ty7 → Bool
  | .bool, .int => true
  | a, b => decide (a = b)
theorem isT_ok : ∀ a b : Ty7, b ≠ .non → kitB a.name b.name = some (isT a b) := by
  intro a b h
  cases a <;> cases b <;> first | exact absurd rfl h | rfl | decide +kernel
def tyD (S : Sto) : DV → Option Ty7
  | .non => some .non
  | .bl _ => some .bool
  | .int _ => some .int
  | .str _ => some .str
  | .tup _ => some .tuple
  | .lst .own _ => some .list
  | .lst .bor _ => some .list
  | .dik _ _ _ => some .dict
  | .dit _ _ _ => some .dict
  | .loc n => match S[n]? with
    | some (.lst _) => some .list
    | some (.dik _ _) => some .dict
    | some (.dit _ _) => some .dict
    | some (.frz (.lst .own _)) => some .list
    | _ => none
  | _ => none
theorem tyD_ok {F : Fm} {S : Sto} {H : Hp} {d : DV} {v : V} {t : Ty7} (R : Rep F S H) (r : Rel F d v) (h : tyD S d = some t) : TyX F.K H v (.type t.name) := by
  cases d with
  | non =>
    cases h
    obtain rfl := (show v = _ from r)
    exact .base .non
  | bl b =>
    cases h
    obtain rfl := (show v = _ from r)
    exact .base (.bl b)
  | int b =>
    cases h
    obtain rfl := (show v = _ from r)
    exact .base (.int b)
  | str b =>
    cases h
    obtain rfl := (show v = _ from r)
    exact .base (.str b)
  | tup ds =>
    cases h
    obtain ⟨a, xs, rfl, hs, _⟩ := tup_at R r
    exact .base (.tup hs)
  | tupx ds => cases h
  | lst k ds =>
    cases k with
    | own =>
      cases h
      obtain ⟨a, xs, rfl, hs, _⟩ := r
      exact .base (.lst (R.g _ _ hs))
    | bor =>
      cases h
      obtain ⟨a, xs, rfl, hs, _⟩ := r
      exact .base (.lst (hs.elim (R.b _ _) (R.g _ _)))
    | ext => cases h
  | dik k ks ds =>
    cases h
    obtain ⟨a, xs, rfl, _, hs, _⟩ := r
    exact .base (.dK (hs.elim (R.g _ _) fun h => R.b _ _ h.2))
  | dit k ks ds =>
    cases h
    obtain ⟨a, xs, rfl, _, hs, _⟩ := r
    exact .base (.dT (hs.elim (R.g _ _) fun h => R.b _ _ h.2))
  | loc n =>
    obtain ⟨a, ha, rfl⟩ := r
    unfold tyD at h
    simp only at h
    split at h
    · rename_i es hc
      cases h
      obtain ⟨⟨xs, e, rl⟩, _⟩ := R.cell n _ a hc ha
      exact .base (.lst e)
    · rename_i es fs hc
      cases h
      obtain ⟨⟨xs, hz, e, rl⟩, _⟩ := R.cell n _ a hc ha
      exact .base (.dK e)
    · rename_i es fs hc
      cases h
      obtain ⟨⟨xs, hz, e, rl⟩, _⟩ := R.cell n _ a hc ha
      exact .base (.dT e)
    · rename_i es hc
      cases h
      obtain ⟨rl, _⟩ := R.cell n _ a hc ha
      obtain ⟨b, xs, e1, hs, _⟩ := (show Rel F (.lst .own es) (.ref a) from rl)
      cases e1
      exact .base (.lst (R.g _ _ hs))
    · cases h
def dIsi (T : Ty7) (f : DE) : DE := fun ρ S => match f ρ S with
  | some (x, S1) => (match tyD S1 x with
    | some t => some (.bl (isT t T), S1)
    | none => none)
  | none => none
section
variable {X : Cx} {e a b : Expr} {f g : DE} {pos : Pos}
theorem isi_go {T : Ty7} (hT : T ≠ .non) {F : Fm} {S S' : Sto} {H : Hp} {ρ : Ev} {σ : L2.St} {d : DV} {Q : VK} (hk : F.K = X.K) (R : Rep F S H) (rr : RelE F ρ σ) (hf : dIsi T f ρ S = some (d, S')) (hq : PostE F S' d Q) :
    tCB (rIsi X.K) (tCons (rdE X.K f) (tCons (tC (.ty T.name)) tNil)) σ H Q := by
  unfold dIsi at hf
  split at hf
  · rename_i x S1 h1
    split at hf
    · rename_i t ht
      cases hf
      refine rdE.go hk R rr h1 fun F1 H1 v le hk1 R1 r1 rv => ?_
      have ty := tyD_ok R1 rv ht
      rw [hk1] at ty
      exact ⟨v, .ty T.name, .type t.name, .type T.name, isT t T, rfl, .ty _, ty, kit_ty (isT_ok t T hT), hq F1 H1 _ le R1 rfl⟩
    · cases hf
  · cases hf
theorem ed_isi {T : Ty7} (hT : T ≠ .non) (ha : ED X a f) (h : ∀ {t : TE}, PE X a t → PE X e (tCB (rIsi X.K) (tCons t (tCons (tC (.ty T.name)) tNil)))) : ED X e (dIsi T f) :=
  .of (h ha.pe) fun F S H ρ σ d S' Q hk R rr hf hq => isi_go hT hk R rr hf hq
end
/-! min, max, sum, any, all -/
def intsD : List DV → Option (List Int)
  | [] => some []
  | .int i :: ds => (match intsD ds with
    | some is => some (i :: is)
    | none => none)
  | _ => none
def blsD : List DV → Option (List Bool)
  | [] => some []
  | .bl i :: ds => (match blsD ds with
    | some is => some (i :: is)
    | none => none)
  | _ => none
def strsD : List DV → Option (List Str)
  | [] => some []
  | .str i :: ds => (match strsD ds with
    | some is => some (i :: is)
    | none => none)
  | _ => none
theorem intsD_ok {F : Fm} : ∀ {ds : List DV} {vs : List V} {is : List Int}, RelL F ds vs → intsD ds = some is → vs = is.map V.int
  | [], vs, is, r, h => by
    cases (show some ([] : List Int) = some is from h)
    exact r
  | d :: ds, vs, is, r, h => by
    unfold intsD at h
    split at h
    · rename_i e
      cases e
    · rename_i i ds' e
      cases e
      split at h
      · rename_i js hj
        cases h
        obtain ⟨x, xr, rfl, h1, h2⟩ := r
        rw [intsD_ok h2 hj, show x = .int i from h1] <;> rfl
      · cases h
    · cases h
theorem blsD_ok {F : Fm} : ∀ {ds : List DV} {vs : List V} {is : List Bool}, RelL F ds vs → blsD ds = some is → vs = is.map V.bl
  | [], vs, is, r, h => by
    cases (show some ([] : List Bool) = some is from h)
    exact r
  | d :: ds, vs, is, r, h => by
    unfold blsD at h
    split at h
    · rename_i e
      cases e
    · rename_i i ds' e
      cases e
      split at h
      · rename_i js hj
        cases h
        obtain ⟨x, xr, rfl, h1, h2⟩ := r
        rw [blsD_ok h2 hj, show x = .bl i from h1] <;> rfl
      · cases h
    · cases h
theorem strsD_ok {F : Fm} : ∀ {ds : List DV} {vs : List V} {is : List Str}, RelL F ds vs → strsD ds = some is → vs = is.map V.str
  | [], vs, is, r, h => by
    cases (show some ([] : List Str) = some is from h)
    exact r
  | d :: ds, vs, is, r, h => by
    unfold strsD at h
    split at h
    · rename_i e
      cases e
    · rename_i i ds' e
      cases e
      split at h
      · rename_i js hj
        cases h
        obtain ⟨x, xr, rfl, h1, h2⟩ := r
        rw [strsD_ok h2 hj, show x = .str i from h1] <;> rfl
      · cases h
    · cases h
def pAll : PL := fun xs S => match xs with
  | [x] => (match asL S x with
    | some ds => (match blsD ds with
      | some is => some (.bl (is.all id), S)
      | none => none)
    | none => none)
  | _ => none
theorem ok_all {K : PySem.W.Frag} : OkL K pAll (rAll K) := fun F S H xs vs d S' Q hk R r hp hq => by
  unfold pAll at hp
  split at hp
  · obtain ⟨v, rfl, rv⟩ := one r
    split at hp
    · rename_i ds hL
      split at hp
      · rename_i is his
        cases hp
        obtain ⟨a, us, rfl, hs, rl⟩ := asL_sq R rv hL
        rw [hk] at hs
        obtain rfl := blsD_ok rl his
        exact ⟨a, is, rfl, hs, hq F H _ (.refl F) R rfl⟩
      · cases hp
    · cases hp
  · cases hp
end Dn

namespace Dn
open PySem PySem.Spec PyProof.Rows L2

/-! ### methods of lists -/
abbrev PM := DV → List DV → Sto → Option (DV × Sto)
def dMt (p : PM) (f : DE) (fa : DA) : DE := fun ρ S => match f ρ S with
  | some (x, S1) => (match asL S1 x with
    | some _ => (match fa ρ S1 with
      | some (xs, S2) => p x xs S2
      | none => none)
    | none => none)
  | none => none
def OkM (K : PySem.W.Frag) (p : PM) (r : V → List V → Hp → VK → Prop) : Prop := ∀ F S H x vx xs vs d S' Q, F.K = K → Rep F S H → Rel F x vx → RelL F xs vs → p x xs S = some (d, S') → PostE F S' d Q → r vx vs H Q
section
variable {X : Cx} {e a b o : Expr} {f g : DE} {fa : DA} {pos : Pos} {st : Stmt}
theorem mt_go {p : PM} {r : V → List V → Hp → VK → Prop} (hp : OkM X.K p r) {F : Fm} {S S' : Sto} {H : Hp} {ρ : Ev} {σ : L2.St} {d : DV} {Q : VK} (hk : F.K = X.K) (R : Rep F S H) (rr : RelE F ρ σ) (hf : dMt p f fa ρ S = some (d, S')) (hq : PostE F S' d Q) :
    tBM X.K "list" r (rdE X.K f) (rdA X.K fa) σ H Q := by
  unfold dMt at hf
  split at hf
  · rename_i x S1 h1
    split at hf
    · rename_i ds hL
      split at hf
      · rename_i xs S2 h2
        refine rdE.go hk R rr h1 fun F1 H1 v le hk1 R1 r1 rv => ?_
        obtain ⟨l, us, rfl, hs, rl⟩ := asL_sq R1 rv hL
        rw [hk1] at hs
        refine ⟨.inl ⟨rfl, us, hs⟩, rdA.go hk1 R1 r1 h2 fun F2 H2 vs le2 hk2 R2 r2 ra => ?_⟩
        exact hp F2 S2 H2 x _ xs vs d S' Q hk2 R2 (rv.le le2) ra hf (hq.le (le.trans le2))
      · cases hf
    · cases hf
  · cases hf
theorem ed_mt {es : List Expr} {p : PM} {r : V → List V → Hp → VK → Prop} (hp : OkM X.K p r) (ho : ED X o f) (ha : AD X es fa) (h : ∀ {t : TA} {u : TE}, PE X o u → PA X es t → PE X e (tBM X.K "list" r u t)) : ED X e (dMt p f fa) :=
  .of (h ho.pe ha.pa) fun F S H ρ σ d S' Q hk R rr hf hq => mt_go hp hk R rr hf hq
theorem ed_mt0 {p : PM} {r : V → List V → Hp → VK → Prop} (hp : OkM X.K p r) (ho : ED X o f) (h : ∀ {u : TE}, PE X o u → PE X e (tBM0 X.K "list" r u)) : ED X e (dMt p f aNil) :=
  .of (h ho.pe) fun F S H ρ σ d S' Q hk R rr hf hq => by
    unfold dMt at hf
    split at hf
    · rename_i x S1 h1
      split at hf
      · rename_i ds hL
        refine rdE.go hk R rr h1 fun F1 H1 v le hk1 R1 r1 rv => ?_
        obtain ⟨l, us, rfl, hs, rl⟩ := asL_sq R1 rv hL
        rw [hk1] at hs
        exact ⟨.inl ⟨rfl, us, hs⟩, hp F1 S1 H1 x _ [] [] d S' Q hk1 R1 rv rfl hf (hq.le le)⟩
      · cases hf
    · cases hf
end
def pAppend : PM := fun x xs S => match x, xs with
  | .loc n, [y] => (match S[n]? with
    | some (.lst ds) => if ds.length < sizeLine then some (.non, S.set n (.lst (ds ++ [y]))) else none
    | _ => none)
  | _, _ => none
def pPopAt : PM := fun x xs S => match x, xs with
  | .loc n, [.int i] => (match S[n]? with
    | some (.lst ds) => if i.natAbs < 9223372036854775808 then (match ixN ds.length i with
      | some j => (match ds[j]? with
        | some d => some (d, S.set n (.lst (ds.eraseIdx j)))
        | none => none)
      | none => none) else none
    | _ => none)
  | _, _ => none
def pReverse : PM := fun x xs S => match x, xs with
  | .loc n, [] => (match S[n]? with
    | some (.lst ds) => some (.non, S.set n (.lst ds.reverse))
    | _ => none)
  | _, _ => none
theorem lst_write {F : Fm} {S : Sto} {H : Hp} {n : Nat} {ds es : List DV} {vs us : List V} {a : Addr} {v : V} {d : DV} {Q : VK} (R : Rep F S H) (hc : S[n]? = some (.lst ds)) (ha : F.lm[n]? = some a) (rl : RelL F es us) (rd : Rel F d v) (hq : PostE F (S.set n (.lst es)) d Q) : Q v (upd H a (.lst us)) :=
  hq F _ v (.refl F) (R.write hc rfl ha (fun _ q => nomatch q) rfl ⟨us, upd_same, rl⟩) rd
section
variable {K : PySem.W.Frag}
theorem ok_append : OkM K pAppend rAppend := fun F S H x vx xs vs d S' Q hk R rx rl hp hq => by
  unfold pAppend at hp
  split at hp
  · rename_i n y
    split at hp
    · rename_i ds hc
      obtain ⟨h1, h2⟩ := of_ite hp
      cases h2
      obtain ⟨a, ha, rfl⟩ := rx
      obtain ⟨v, rfl, rv⟩ := one rl
      obtain ⟨⟨us, e, ru⟩, _⟩ := R.cell n _ a hc ha
      exact ⟨a, us, v, rfl, rfl, e, by rw [← ru.length]; exact h1, lst_write (vs := us) R hc ha (us := us ++ [v]) (ru.append (rel1 rv)) (d := .non) (v := .non) rfl hq⟩
    · cases hp
  · cases hp
theorem ok_popAt : OkM K pPopAt rPopAt := fun F S H x vx xs vs d S' Q hk R rx rl hp hq => by
  unfold pPopAt at hp
  split at hp
  · rename_i n i
    split at hp
    · rename_i ds hc
      obtain ⟨hi, hp⟩ := of_ite hp
      split at hp
      · rename_i j hj
        split at hp
        · rename_i d0 hd
          cases hp
          obtain ⟨a, ha, rfl⟩ := rx
          obtain ⟨w, rfl, rw_⟩ := one rl
          obtain rfl := (show w = .int i from rw_)
          obtain ⟨⟨us, e, ru⟩, _⟩ := R.cell n _ a hc ha
          obtain ⟨v, hv, rv⟩ := ru.get hd
          exact ⟨a, us, i, j, v, rfl, rfl, e, by omega, by omega, by rw [← ru.length]; exact (ixN_seq hj).1, hv, lst_write (vs := us) R hc ha (ru.eraseIdx _) rv hq⟩
        · cases hp
      · cases hp
    · cases hp
  · cases hp
theorem ok_reverse : OkM K pReverse rReverse := fun F S H x vx xs vs d S' Q hk R rx rl hp hq => by
  unfold pReverse at hp
  split at hp
  · rename_i n
    split at hp
    · rename_i ds hc
      cases hp
      obtain ⟨a, ha, rfl⟩ := rx
      obtain rfl := rl.nil
      obtain ⟨⟨us, e, ru⟩, _⟩ := R.cell n _ a hc ha
      exact ⟨a, us, rfl, rfl, e, lst_write (vs := us) R hc ha ru.rev (d := .non) (v := .non) rfl hq⟩
    · cases hp
  · cases hp
end

/-! ### methods of texts with one argument -/
def dM1 (p : Str → DV → Sto → Option (DV × Sto)) (f g : DE) : DE := fun ρ S => match f ρ S with
  | some (.str a, S1) => (match g ρ S1 with
    | some (y, S2) => p a y S2
    | none => none)
  | _ => none
section
variable {X : Cx} {e a b o : Expr} {f g : DE} {fa : DA} {pos : Pos} {st : Stmt}
theorem ed_m1 {p : Str → DV → Sto → Option (DV × Sto)} {r : V → List V → Hp → VK → Prop} (hp : ∀ F S H x y vy d S' Q, F.K = X.K → Rep F S H → Rel F y vy → p x y S = some (d, S') → PostE F S' d Q → r (.str x) [vy] H Q)
    (ho : ED X o f) (hb : ED X b g) (h : ∀ {t u : TE}, PE X o t → PE X b u → PE X e (tM1 r t u)) : ED X e (dM1 p f g) :=
  .of (h ho.pe hb.pe) fun F S H ρ σ d S' Q hk R rr hf hq => by
    unfold dM1 at hf
    split at hf
    · rename_i x S1 h1
      split at hf
      · rename_i y S2 h2
        refine rdE.go hk R rr h1 fun F1 H1 v le hk1 R1 r1 rv => ⟨⟨x, rv⟩, rdE.go hk1 R1 r1 h2 fun F2 H2 u le2 hk2 R2 r2 ru => ?_⟩
        obtain rfl := (show v = .str x from rv)
        exact hp F2 S2 H2 x y u d S' Q hk2 R2 ru hf (hq.le (le.trans le2))
      · cases hf
    · cases hf
def pJoin : Str → DV → Sto → Option (DV × Sto) := fun a y S => match itemsD S y with
  | some ds => (match strsD ds with
    | some ys => if (ys.map (·.length)).sum + ys.length * a.length ≤ 16777216 then some (.str (Txt.join a ys), S) else none
    | none => none)
  | none => none
theorem ok_join {K : PySem.W.Frag} (F : Fm) (S : Sto) (H : Hp) (x : Str) (y : DV) (vy : V) (d : DV) (S' : Sto) (Q : VK) (hk : F.K = K) (R : Rep F S H) (ry : Rel F y vy) (hp : pJoin x y S = some (d, S')) (hq : PostE F S' d Q) :
    ∃ a p, ∃ ys : List Str, V.str x = .str a ∧ [vy] = [.ref p] ∧ (SqL K H p (ys.map V.str) ∨ SqT K H p (ys.map V.str)) ∧ (ys.map (·.length)).sum + ys.length * a.length ≤ 16777216 ∧ Q (.str (Txt.join a ys)) H := by
  unfold pJoin at hp
  split at hp
  · rename_i ds hL
    split at hp
    · rename_i ys hy
      obtain ⟨h1, h2⟩ := of_ite hp
      cases h2
      obtain ⟨p, us, rfl, hs, rl⟩ := itemsD_sq R ry hL
      rw [hk] at hs
      obtain rfl := strsD_ok rl hy
      exact ⟨x, p, ys, rfl, rfl, hs, h1, hq F H _ (.refl F) R rfl⟩
    · cases hp
  · cases hp
theorem strs_rel {F : Fm} : ∀ ys : List Str, RelL F (ys.map DV.str) (ys.map V.str)
  | [] => rfl
  | y :: ys => ⟨_, _, rfl, rfl, strs_rel ys⟩
theorem ints_rel {F : Fm} : ∀ ys : List Int, RelL F (ys.map DV.int) (ys.map V.int)
  | [] => rfl
  | y :: ys => ⟨_, _, rfl, rfl, ints_rel ys⟩
/-! ### d.get -/
/-! ### o[i] = v -/
end
theorem rp_len {κ α : Type} [DecidableEq κ] {j : κ} {x : α} : ∀ {ks : List κ} {xs : List α}, ks.length = xs.length → (rpG j x ks xs).length = ks.length
  | [], _, _ => rfl
  | k :: ks, [], h => by cases h
  | k :: ks, y :: xs, h => by
    unfold rpG
    rw [List.length_cons, List.length_cons, rp_len (Nat.succ.inj h)]
theorem rp_rel {κ : Type} [DecidableEq κ] {F : Fm} {j : κ} {y : DV} {v : V} (ry : Rel F y v) : ∀ {ks : List κ} {ds : List DV} {xs : List V}, RelL F ds xs → RelL F (rpG j y ks ds) (rpG j v ks xs)
  | [], _, _, _ => rfl
  | k :: ks, [], xs, h => by
    obtain rfl := h.nil
    exact rfl
  | k :: ks, d :: ds, xs, h => by
    obtain ⟨x, xr, rfl, h1, h2⟩ := h
    refine ⟨_, _, rfl, ?_, rp_rel ry h2⟩
    by_cases q : k = j
    · rw [if_pos q, if_pos q]
      exact ry
    · rw [if_neg q, if_neg q]
      exact h1
theorem PSet.or {X : Cx} {t u : TSet} (h : PSet X t) (k : PSet X u) : PSet X (fun o i v H Q => t o i v H Q ∨ u o i v H Q) := fun pins s σ H o i v ov iv w Q I ro ri rv h' => h'.elim (h pins s σ H o i v ov iv w Q I ro ri rv) (k pins s σ H o i v ov iv w Q I ro ri rv)
section
variable {X : Cx} {e a b o : Expr} {f g : DE} {fa : DA} {pos : Pos} {st : Stmt}
/-- x += e over ints -/
def dAug (i : Nat) (p : P2) (f : DE) : DS := fun ρ S => match ρ[i]? with
  | some (some x) => (match f ρ S with
    | some (y, S1) => (match p x y S1 with
      | some (d, S2) => some (.nx (ρ.set i (some d)) S2)
      | none => none)
    | none => none)
  | _ => none
abbrev pAddI : P2 := pI fun i j => some (i + j)
/-! ### what loops walk -/
def iSeq (f : DE) : DI := fun ρ S => match f ρ S with
  | some (x, S1) => (match x with
    | .tup ds => some (ds, S1)
    | .tupx ds => some (ds, S1)
    | .lst _ ds => some (ds, S1)
    | .str s => some (s.cps.toList.map fun c => .str ⟨#[c]⟩, S1)
    | .loc n => (match S1[n]? with
      | some (.frz (.lst _ ds)) => some (ds, S1)
      | _ => none)
    | _ => none)
  | none => none
theorem walks_list {F : Fm} {a : Addr} {ds : List DV} (h : ∀ F' S H, Wk F F' → Rep F' S H → ∃ xs, SqL F.K H a xs ∧ RelL F' ds xs) : Walks (Itl F.K a) F ds := fun i F' S H w _ R => by
  obtain ⟨xs, hs, rl⟩ := h F' S H w R
  refine ⟨fun e => ⟨xs, hs, by rw [e, rl.length]; exact Nat.le_refl _⟩, fun d hd => ?_⟩
  obtain ⟨x, hx, rx⟩ := rl.get hd
  refine ⟨⟨xs, x, hs, hx⟩, fun y H' yl => ?_⟩
  obtain ⟨rfl, y2⟩ := yl
  have e := (y2 xs hs).symm.trans hx
  cases e
  exact ⟨F', .refl F', R, rx⟩
theorem walks_tup {F : Fm} {a : Addr} {ds : List DV} (h : ∀ F' S H, Wk F F' → Rep F' S H → ∃ xs, SqT F.K H a xs ∧ RelL F' ds xs) : Walks (Itt F.K a) F ds := fun i F' S H w _ R => by
  obtain ⟨xs, hs, rl⟩ := h F' S H w R
  refine ⟨fun e => ⟨xs, hs, by rw [e, rl.length]; exact Nat.le_refl _⟩, fun d hd => ?_⟩
  obtain ⟨x, hx, rx⟩ := rl.get hd
  refine ⟨⟨xs, x, hs, hx⟩, fun y H' yl => ?_⟩
  obtain ⟨rfl, y2⟩ := yl
  have e := (y2 xs hs).symm.trans hx
  cases e
  exact ⟨F', .refl F', R, rx⟩
theorem walks_str {F : Fm} {s : Str} : Walks (Its s) F (s.cps.toList.map fun c => .str ⟨#[c]⟩) := fun i F' S H w _ R => by
  refine ⟨fun e => ?_, fun d hd => ?_⟩
  · have : i = s.cps.size := by simpa using e
    show s.cps.size ≤ i
    omega
  · rw [List.getElem?_map] at hd
    cases e : s.cps.toList[i]? with
    | none =>
      rw [e] at hd
      cases hd
    | some c =>
      rw [e] at hd
      cases hd
      have e2 : s.cps[i]? = some c := by simpa using e
      refine ⟨(Array.getElem?_eq_some_iff.mp e2).1, fun x H' y => ?_⟩
      obtain ⟨rfl, c', h1, rfl⟩ := y
      rw [e2] at h1
      cases h1
      exact ⟨F', .refl F', R, rfl⟩
theorem walks_range {F : Fm} {lo : Int} {n : Nat} : Walks (Itr lo n) F ((List.range n).map fun i => .int (lo + (i : Nat))) := fun i F' S H w _ R => by
  refine ⟨fun e => ?_, fun d hd => ?_⟩
  · have : i = n := by simpa using e
    show n ≤ i
    omega
  · rw [List.getElem?_map] at hd
    cases e : (List.range n)[i]? with
    | none =>
      rw [e] at hd
      cases hd
    | some c =>
      rw [e] at hd
      cases hd
      obtain ⟨h1, h2⟩ := List.getElem?_eq_some_iff.mp e
      rw [List.getElem_range] at h2
      subst h2
      refine ⟨(by simpa using h1 : i < n), fun x H' y => ?_⟩
      obtain ⟨rfl, rfl⟩ := y
      exact ⟨F', .refl F', R, rfl⟩
theorem seq_src {F : Fm} {S : Sto} {H : Hp} {k : LK} {ds : List DV} {v : V} (R : Rep F S H) (rv : Rel F (.lst k ds) v) : ∃ a, v = .ref a ∧ (∃ xs, SqL F.K H a xs) ∧ Walks (Itl F.K a) F ds := by
  obtain ⟨a, xs, rfl, hs, _⟩ := rv.lstSq R
  refine ⟨a, rfl, ⟨xs, hs⟩, walks_list fun F' S' H' w R' => ?_⟩
  obtain ⟨a', xs', e, hs', rl'⟩ := (Rel.wk w _ _ rv).lstSq R'
  cases e
  rw [w.k] at hs'
  exact ⟨xs', hs', rl'⟩
theorem id_seq {tg : Expr} (h : ED X e f) : ID X tg e (iSeq f) :=
  .of (PI.or (pi_list h.pe) (PI.or (pi_tup h.pe) (pi_str h.pe))) fun F S H ρ σ ds S' Q hk R rr hf hq => by
    unfold iSeq at hf
    split at hf
    · rename_i x S1 h1
      split at hf
      · rename_i es
        cases hf
        refine .inr (.inl (rdE.go hk R rr h1 fun F1 H1 v le hk1 R1 r1 rv => ?_))
        obtain ⟨a, xs, rfl, hs, rl⟩ := rv
        rw [← hk1]
        refine ⟨a, rfl, ⟨xs, SqT.of (R1.g _ _ hs)⟩, hq _ F1 H1 le R1 (walks_tup fun F' S' H' w R' => ⟨xs, SqT.of (R'.g _ _ (w.g _ _ hs)), RelL.wk w _ _ rl⟩)⟩
      · rename_i es
        cases hf
        refine .inr (.inl (rdE.go hk R rr h1 fun F1 H1 v le hk1 R1 r1 rv => ?_))
        obtain ⟨a, xs, rfl, hs, rl⟩ := rv
        rw [← hk1]
        refine ⟨a, rfl, ⟨xs, sqT_same R1.g hs⟩, hq _ F1 H1 le R1 (walks_tup fun F' S' H' w R' => ⟨xs, sqT_same R'.g (sqT_same w.g hs), RelL.wk w _ _ rl⟩)⟩
      · rename_i k es
        cases hf
        refine .inl (rdE.go hk R rr h1 fun F1 H1 v le hk1 R1 r1 rv => ?_)
        obtain ⟨a, rfl, hs, hw⟩ := seq_src R1 rv
        rw [← hk1]
        exact ⟨a, rfl, hs, hq _ F1 H1 le R1 hw⟩
      · rename_i s
        cases hf
        refine .inr (.inr (rdE.go hk R rr h1 fun F1 H1 v le hk1 R1 r1 rv => ?_))
        exact ⟨s, rv, hq _ F1 H1 le R1 walks_str⟩
      · rename_i n
        split at hf
        · rename_i k es hc
          cases hf
          refine .inl (rdE.go hk R rr h1 fun F1 H1 v le hk1 R1 r1 rv => ?_)
          obtain ⟨a, ha, rfl⟩ := rv
          obtain ⟨rl, _⟩ := R1.cell n _ a hc ha
          obtain ⟨a', e, hs, hw⟩ := seq_src R1 (show Rel F1 (.lst k ds) (.ref a) from rl)
          cases e
          rw [← hk1]
          exact ⟨a, rfl, hs, hq _ F1 H1 le R1 hw⟩
        · cases hf
      · cases hf
    · cases hf
def rgD (lo : Int) (n : Nat) : List DV := (List.range n).map fun i => .int (lo + (i : Nat))
def iRange1 (f : DA) : DI := fun ρ S => match f ρ S with
  | some ([.int j], S1) => if j.natAbs < 4611686018427387904 then some (rgD 0 j.toNat, S1) else none
  | _ => none
theorem id_range1 {tg : Expr} {es : List Expr} (ha : AD X es fa) (h : ∀ {t : TA}, PA X es t → PI X tg e (iRng1 t)) : ID X tg e (iRange1 fa) :=
  .of (h ha.pa) fun F S H ρ σ ds S' Q hk R rr hf hq => by
    unfold iRange1 at hf
    split at hf
    · rename_i j S1 h1
      obtain ⟨hb, hf⟩ := of_ite hf
      cases hf
      refine rdA.go hk R rr h1 fun F1 H1 vs le hk1 R1 r1 rl => ?_
      obtain ⟨v, rfl, rv⟩ := one rl
      obtain rfl := (show v = .int j from rv)
      exact ⟨j, rfl, by omega, by omega, hq _ F1 H1 le R1 walks_range⟩
    · cases hf
def enD : Nat → List DV → List DV
  | _, [] => []
  | i, d :: ds => .tup [.int (i : Nat), d] :: enD (i + 1) ds
theorem enD_get : ∀ {ds : List DV} {k i : Nat}, (enD k ds)[i]? = (ds[i]?).map fun d => .tup [.int ((k + i : Nat) : Int), d]
  | [], k, i => by unfold enD; simp
  | d :: ds, k, 0 => by unfold enD; simp
  | d :: ds, k, i + 1 => by
    unfold enD
    rw [List.getElem?_cons_succ, List.getElem?_cons_succ, enD_get]
    have e : k + 1 + i = k + (i + 1) := by omega
    rw [e]
theorem enD_len : ∀ {ds : List DV} {k : Nat}, (enD k ds).length = ds.length
  | [], k => rfl
  | d :: ds, k => by
    unfold enD
    rw [List.length_cons, List.length_cons, enD_len]
def valL (S : Sto) : DV → Option (List DV)
  | .lst _ ds => some ds
  | .loc n => match S[n]? with
    | some (.frz (.lst _ ds)) => some ds
    | _ => none
  | _ => none
theorem valL_ok {F : Fm} {S : Sto} {H : Hp} {x : DV} {v : V} {ds : List DV} (R : Rep F S H) (r : Rel F x v) (h : valL S x = some ds) : ∃ k, Rel F (.lst k ds) v := by
  unfold valL at h
  split at h
  · rename_i k es
    cases h
    exact ⟨k, r⟩
  · rename_i n
    split at h
    · rename_i k es hc
      cases h
      obtain ⟨a, ha, rfl⟩ := r
      obtain ⟨rl, _⟩ := R.cell n _ a hc ha
      exact ⟨k, rl⟩
    · cases h
  · cases h
def iEnum (f : DA) : DI := fun ρ S => match f ρ S with
  | some ([x], S1) => (match valL S1 x with
    | some ds => some (enD 0 ds, S1)
    | none => none)
  | _ => none
theorem walks_enum {F : Fm} {a : Addr} {ds : List DV} (h : ∀ F' S H, Wk F F' → Rep F' S H → ∃ xs, SqL F.K H a xs ∧ RelL F' ds xs) : Walks (Ite F.K a) F (enD 0 ds) := fun i F' S H w _ R => by
  obtain ⟨xs, hs, rl⟩ := h F' S H w R
  refine ⟨fun e => ⟨xs, hs, by rw [e, enD_len, rl.length]; exact Nat.le_refl _⟩, fun d hd => ?_⟩
  rw [enD_get] at hd
  cases hd0 : ds[i]? with
  | none =>
    rw [hd0] at hd
    cases hd
  | some d0 =>
    rw [hd0] at hd
    cases hd
    obtain ⟨x, hx, rx⟩ := rl.get hd0
    refine ⟨⟨xs, x, hs, hx⟩, fun y H' yl => ?_⟩
    obtain ⟨T, x', rfl, hT, rfl, hy⟩ := yl
    have e := (hy xs hs).symm.trans hx
    cases e
    obtain ⟨R', le⟩ := R.add (o := .tup [.int (i : Nat), x]) hT
    exact ⟨_, le, R', T, _, rfl, upd_same, .cons (by rw [Nat.zero_add]; exact rfl) (.cons (rx.le le) rfl)⟩
end
end Dn

namespace Dn
open PySem PySem.Spec PyProof.Rows L2

/-! ### a def that is ready to be called -/
structure FnC (P : Program) (w : World) (K : PySem.W.Frag) (mg : Str → Option Value) (base : Heap) (x : Str) (k : Nat) (ps : List Str) (dvs : List V) (f : PL) : Prop where
  ex : ∃ (a : Addr) (fd : FuncData) (ds : List Value), mg x = some (.ref a) ∧ FnOk P w K mg base CX0 k a fd ps (spS K ps.length f) ∧ PySem.W.keepIn K (.ref a) = true ∧ Binds K fd ps ds ∧ Vals dvs ds
section
variable {X : Cx} {x : Str} {k j : Nat} {ps : List Str} {dvs : List V} {f : PL} {dds : List DV} {p pos : Pos} {e a b : Expr} {es : List Expr} {fa : DA}
theorem FnC.pe (C : FnC X.prog X.w X.K X.mg X.base x k ps dvs f) (hr : Room j X.A) (hj : k ≤ j) (hg : Gl X x) {t : TA} (ha : PA X (e :: es) t) (hdb : (x == ("__debug__" : Str)) = false := by decide)
    (he : starEach (e :: es) X.env = (false, eval e X.env) :: starEach es X.env := by rfl) (hpl : (backTo pos (starEach es X.env)).any (·.1) = false := by rfl) :
    PE X (.Call (.Name x p) (e :: es) [] pos) (tCall (spS X.K ps.length f) dvs E0 t) := by
  obtain ⟨a, fd, ds, h1, h2, h3, h4, h5⟩ := C.ex
  exact pe_call h2 (hr.mono hj) hg h1 h3 h4 h5 pass0 ha hdb he hpl
theorem ed_callS (C : FnC X.prog X.w X.K X.mg X.base x k ps dvs (runF np n b0)) (hn : ps.length = np) (hr : Room j X.A) (hj : k ≤ j) (hg : Gl X x) (hd : ∀ F : Fm, RelL F dds dvs) (ha : AD X (e :: es) fa) (hdb : (x == ("__debug__" : Str)) = false := by decide)
    (he : starEach (e :: es) X.env = (false, eval e X.env) :: starEach es X.env := by rfl) (hpl : (backTo pos (starEach es X.env)).any (·.1) = false := by rfl) :
    ED X (.Call (.Name x p) (e :: es) [] pos) (dPrim (cS (runF np n b0) dds) fa) := by
  subst hn
  exact ed_call (fun {t} ha => C.pe hr hj hg ha hdb he hpl) (ok_cS hd runF_len) ha
theorem ed_callP (C : FnC X.prog X.w X.K X.mg X.base x k ps dvs (runF np n b0)) (hn : ps.length = np) (hr : Room j X.A) (hj : k ≤ j) (hg : Gl X x) (hd : ∀ F : Fm, RelL F dds dvs) (ha : AD X (e :: es) fa) (hdb : (x == ("__debug__" : Str)) = false := by decide)
    (he : starEach (e :: es) X.env = (false, eval e X.env) :: starEach es X.env := by rfl) (hpl : (backTo pos (starEach es X.env)).any (·.1) = false := by rfl) :
    ED X (.Call (.Name x p) (e :: es) [] pos) (dPrim (cP (pureOf (runF np n b0)) dds) fa) := by
  subst hn
  exact ed_call (fun {t} ha => C.pe hr hj hg ha hdb he hpl) (ok_cP hd runF_len) ha
theorem dd0 (F : Fm) : RelL F [] [] := rfl
theorem FnC.of {P : Program} {w : World} {K : PySem.W.Frag} {mg : Str → Option Value} {base : Heap} {a : Addr} {fd : FuncData} {qual : Str} {params : Arguments} {body : List Stmt} {scope : Scope}
    (F : FunD K x qual params body scope [] [] a fd) (hm : mg x = some (.ref a)) (h : FnOk P w K mg base CX0 k a fd ps (spS K ps.length f))
    (hb : ∀ (kV doc pm : Value) (an : Option Addr) (cdv ct : Value) (us : List Value), us.length = ps.length → bindArgs (PySem.W.fnOf x qual params body scope .none kV doc pm an cdv ct) ⟨us, []⟩ = pure (ps.zip us)) : FnC P w K mg base x k ps [] f :=
  ⟨a, fd, [], hm, h, F.kp, F.bindsN hb, .nil⟩

/-! ### names of the module -/
def dvD : He.Dv → DV
  | .bl b => .bl b
  | .int i => .int i
  | .str s => .str s
  | _ => .non
def dvOk : He.Dv → Bool
  | .non => true
  | .bl _ => true
  | .int _ => true
  | .str _ => true
  | _ => false
/-! ### built-in calls in short -/
structure TB (mg : Str → Option Value) : Prop where
  len : mg "len" = none
  isinstance : mg "isinstance" = none
  range : mg "range" = none
  enumerate : mg "enumerate" = none
  list : mg "list" = none
  tuple : mg "tuple" = none
  str : mg "str" = none
  int : mg "int" = none
  max : mg "max" = none
  min : mg "min" = none
  sum : mg "sum" = none
  any : mg "any" = none
  all : mg "all" = none
  sorted : mg "sorted" = none
  set : mg "set" = none
  reversed : mg "reversed" = none
  bool : mg "bool" = none
  dict : mg "dict" = none
  zip : mg "zip" = none
  ve : mg "ValueError" = none
def frees : List He.Fa := [.free "len", .free "isinstance", .free "range", .free "enumerate", .free "list", .free "tuple", .free "str", .free "int", .free "max", .free "min", .free "sum", .free "any", .free "all", .free "sorted", .free "set", .free "reversed", .free "bool", .free "dict", .free "zip", .free "ValueError"]
theorem tb_of {K : PySem.W.Frag} {h : Heap} {mg : Str → Option Value} (X : K.In h) (G : h.Ns mainGlobals mg) (c : ∀ f ∈ frees, f.ok K = true) : TB mg := by
  have g : ∀ {x : Str}, He.Fa.free x ∈ frees → mg x = none := fun {x} hx => He.free_ok X G (c _ hx)
  have m : ∀ (i : Nat) {x : Str}, frees[i]? = some (He.Fa.free x) → mg x = none := fun i {x} e => g (List.mem_of_getElem? e)
  exact ⟨m 0 rfl, m 1 rfl, m 2 rfl, m 3 rfl, m 4 rfl, m 5 rfl, m 6 rfl, m 7 rfl, m 8 rfl, m 9 rfl, m 10 rfl, m 11 rfl, m 12 rfl, m 13 rfl, m 14 rfl, m 15 rfl, m 16 rfl, m 17 rfl, m 18 rfl, m 19 rfl⟩
section
theorem e_isi {T7 : Ty7} {e1 : Expr} {f : DE} {p1 p2 : Pos} (T : TB X.mg) (hm : X.mg (Str.ofString T7.name) = none) (hT : T7 ≠ .non) (hg : Gl X "isinstance") (hg2 : Gl X (Str.ofString T7.name)) (hb : bootBuiltins (Str.ofString T7.name) = some (.type T7.name))
    (hx : ED X e1 f) (hn : Str.ofString T7.name ≠ "__name__" := by decide) (hd : (Str.ofString T7.name == ("__debug__" : Str)) = false := by decide)
    (h1 : starEach [e1, .Name (Str.ofString T7.name) p2] X.env = (false, eval e1 X.env) :: starEach [.Name (Str.ofString T7.name) p2] X.env := by rfl)
    (hpl : (backTo pos (starEach [.Name (Str.ofString T7.name) p2] X.env)).any (·.1) = false := by rfl) :
    ED X (.Call (.Name "isinstance" p1) [e1, .Name (Str.ofString T7.name) p2] [] pos) (dIsi T7 f) :=
  ed_isi hT hx fun h => pe_callB call_isi hg T.isinstance boot_isinstance (pa_cons h (pa_cons (pe_bltn hg2 hm hb rfl hn hd) pa_nil) h1) (he := h1) (hpl := hpl)
end
end
theorem call_tupAll {X : Cx} : CallR X (.type "tuple") (rTupAll X.K) := call_tuple_of
/-! ### targets in short -/
section
variable {X : Cx} {e : Expr} {es : List Expr}
theorem gds_c {g : DG} {h : DGs} (h1 : GD X e g) (h2 : GDs X es h) (ha : (assignEach (e :: es) X.env).map (·.2) = assign e X.env :: (assignEach es X.env).map (·.2) := by rfl) : GDs X (e :: es) (gsCons g h) := gds_cons (t := rdG X.K g) (u := rdGs X.K h) h1 h2 (pgs_cons h1.pg h2.pg ha)
theorem gd_t {h : DGs} {k n : Nat} {pos : Pos} (hc : X.calm = true) (h2 : GDs X es h) (hn : (assignEach es X.env).length = n := by rfl) (hst : (assignEach es X.env).findIdx? (·.1) = none := by rfl) : GD X (.Tuple es k pos) (gTupD n h) := gd_tup h2 (pg_tup hc h2.pg hn hst)
end
/-! ### the head -/
structure Facts (fa : List He.Fa) (fn : List He.DefD) (ex : PySem.W.Frag → Bool) (K : PySem.W.Frag) (mg : Str → Option Value) : Prop where
  h : ∃ h : Heap, K.In h ∧ h.Ns mainGlobals mg
  c : He.SaysD fa fn K
  e : ex K = true
section
variable {fa : List He.Fa} {fn : List He.DefD} {ex : PySem.W.Frag → Bool} {K : PySem.W.Frag} {mg : Str → Option Value}
theorem Facts.glo (Y : Facts fa fn ex K mg) (i : Nat) {x : Str} (h : fa[i]? = some (.glo x) := by rfl) : mg x = some (.ref (He.ga K x)) := by
  obtain ⟨hp, X, G⟩ := Y.h
  exact He.glo_ok X G (Y.c.fact i h)
theorem Facts.int (Y : Facts fa fn ex K mg) (i : Nat) {x : Str} {k : Int} (h : fa[i]? = some (.int x k) := by rfl) : ∃ t, mg x = some (.int k t) := by
  obtain ⟨hp, X, G⟩ := Y.h
  exact He.int_ok X G (Y.c.fact i h)
theorem Facts.str (Y : Facts fa fn ex K mg) (i : Nat) {x k : Str} (h : fa[i]? = some (.str x k) := by rfl) : ∃ t, mg x = some (.str k t) := by
  obtain ⟨hp, X, G⟩ := Y.h
  exact He.str_ok X G (Y.c.fact i h)
theorem Facts.tb0 (Y : Facts fa fn ex K mg) (hl : ∃ l, fa = l ++ frees) : TB mg := by
  obtain ⟨hp, X, G⟩ := Y.h
  obtain ⟨l, rfl⟩ := hl
  refine tb_of X G fun f hf => ?_
  obtain ⟨i, hi⟩ := List.mem_iff_getElem?.mp (List.mem_append_right l hf)
  exact Y.c.fact i hi
end
/-- the law's promise off its mathematics -/
theorem spS_law {K : PySem.W.Frag} {f : PL} {H : Hp} {a : Addr} {ns : List Int} {E : XK} (hS : SqL K H a (ns.map V.int)) (h : ∃ S', f [.lst .ext (ns.map DV.int)] [] = some (.bl true, S')) : spS K 1 f [.ref a] H (fun v _ => v = .bl true) E := by
  obtain ⟨S', h⟩ := h
  refine ⟨⟨K, H, fun _ => none, fun _ => none, []⟩, [], [.lst .ext (ns.map DV.int)], .bl true, S', rfl, ⟨Same.refl _, (fun _ _ q => nomatch q), (fun _ _ q => nomatch q), fun _ _ e => e, rfl, fun n c a h _ => by simp at h, fun n m c c' a h => by simp at h⟩, rel1 ⟨a, _, rfl, hS, ints_rel _⟩, rfl, h, fun F' H' v le R' rv => rv⟩
end Dn

namespace Dn
open PySem PySem.Spec PyProof.Rows L2

/-! ### the laws' mathematics: evaluating denotations -/
mutual
/-- a value without cells and borrowed parts -/
def plain : DV → Bool
  | .loc _ => false
  | .tup ds => plainL ds
  | .tupx ds => plainL ds
  | .lst k ds => (match k with | .bor => false | _ => true) && plainL ds
  | .dik k _ ds => (match k with | .own => true | _ => false) && plainL ds
  | .dit k _ ds => (match k with | .own => true | _ => false) && plainL ds
  | _ => true
def plainL : List DV → Bool
  | [] => true
  | d :: ds => plain d && plainL ds
end
mutual
theorem mapD_plain {b : Bool} {h : Nat → Option DV} : ∀ {d : DV}, plain d = true → mapD b h d = some d
  | .loc _, e => by cases e
  | .non, _ => rfl
  | .bl _, _ => rfl
  | .int _, _ => rfl
  | .str _, _ => rfl
  | .tup ds, e => by
    unfold mapD
    rw [mapDL_plain (d := ds) e]
  | .tupx ds, e => by
    unfold mapD
    rw [mapDL_plain (d := ds) e]
  | .lst k ds, e => by
    unfold plain at e
    obtain ⟨e1, e2⟩ := Bool.and_eq_true_iff.mp e
    unfold mapD
    rw [mapDL_plain e2]
    cases k with
    | bor => cases e1
    | own => rfl
    | ext => rfl
  | .dik k ks ds, e => by
    unfold plain at e
    obtain ⟨e1, e2⟩ := Bool.and_eq_true_iff.mp e
    unfold mapD
    rw [mapDL_plain e2]
    cases k with
    | bor => cases e1
    | own => rfl
    | ext => cases e1
  | .dit k ks ds, e => by
    unfold plain at e
    obtain ⟨e1, e2⟩ := Bool.and_eq_true_iff.mp e
    unfold mapD
    rw [mapDL_plain e2]
    cases k with
    | bor => cases e1
    | own => rfl
    | ext => cases e1
theorem mapDL_plain {b : Bool} {h : Nat → Option DV} : ∀ {d : List DV}, plainL d = true → mapDL b h d = some d
  | [], _ => rfl
  | d :: ds, e => by
    unfold plainL at e
    obtain ⟨e1, e2⟩ := Bool.and_eq_true_iff.mp e
    unfold mapDL
    rw [mapD_plain e1, mapDL_plain e2]
end
theorem cpD_plain {b : Bool} {S : Sto} {d : DV} (h : plain d = true) : cpD b S d = some d := mapD_plain h
theorem cpL_plain {b : Bool} {S : Sto} {d : List DV} (h : plainL d = true) : cpL b S d = some d := mapDL_plain h
section
variable {b : Bool} {x : Str} {i : Int} {ds : List DV} {d : DV}
@[simp] theorem plain_non : plain .non = true := (rfl)
@[simp] theorem plain_bl : plain (.bl b) = true := (rfl)
@[simp] theorem plain_int : plain (.int i) = true := (rfl)
@[simp] theorem plain_str : plain (.str x) = true := (rfl)
@[simp] theorem plain_tup : plain (.tup ds) = plainL ds := (rfl)
@[simp] theorem plain_tupx : plain (.tupx ds) = plainL ds := (rfl)
@[simp] theorem plain_own : plain (.lst .own ds) = plainL ds := by simp [plain]
@[simp] theorem plain_ext : plain (.lst .ext ds) = plainL ds := by simp [plain]
@[simp] theorem plainL_nil : plainL [] = true := (rfl)
@[simp] theorem plainL_cons : plainL (d :: ds) = (plain d && plainL ds) := (rfl)
theorem plainL_iff : ∀ {ds : List DV}, plainL ds = true ↔ ∀ d ∈ ds, plain d = true
  | [] => by simp
  | d :: ds => by simp [plainL_iff (ds := ds)]
@[simp] theorem plainL_app {a b : List DV} : plainL (a ++ b) = (plainL a && plainL b) := by
  induction a with
  | nil => simp
  | cons x r ih => simp [ih, Bool.and_assoc]
@[simp] theorem plainL_ints {ns : List Int} : plainL (ns.map DV.int) = true := plainL_iff.mpr fun d h => by
  obtain ⟨i, _, rfl⟩ := List.mem_map.mp h
  rfl
@[simp] theorem plainL_strs {ns : List Str} : plainL (ns.map DV.str) = true := plainL_iff.mpr fun d h => by
  obtain ⟨i, _, rfl⟩ := List.mem_map.mp h
  rfl
end
/-- a cell's copy -/
theorem cpD_loc {b : Bool} {S : Sto} {n : Nat} {ds : List DV} (h : S[n]? = some (.lst ds)) (hp : plainL ds = true) : cpD b S (.loc n) = some (.lst (bk b) ds) := by
  show cpN b (S.length + 1) S n = _
  unfold cpN
  simp only [h, mapDL_plain hp]
theorem pureOf_of {f : PL} {ds : List DV} {d : DV} {S' : Sto} (h : f ds [] = some (d, S')) (hp : plain d = true) : pureOf f ds = some d := by
  unfold pureOf
  rw [h]
  exact cpD_plain hp
theorem pureOf_loc {f : PL} {ds es : List DV} {n : Nat} {S' : Sto} (h : f ds [] = some (.loc n, S')) (hn : S'[n]? = some (.lst es)) (hp : plainL es = true) : pureOf f ds = some (.lst .own es) := by
  unfold pureOf
  rw [h]
  exact cpD_loc hn hp
section
variable {f g h : DE} {fa : DA} {s t : DS} {p : P2} {ρ : Ev} {S : Sto} {i : Nat} {d : DV} {pl : PL} {pf : List DV → Option DV} {xs : List DV}
@[simp] theorem v_var : dVar i ρ S = (match ρ[i]? with | some (some d) => some (d, S) | _ => none) := (rfl)
@[simp] theorem v_c : dC d ρ S = some (d, S) := (rfl)
@[simp] theorem v_un {p : P1} : dUn p f ρ S = (match f ρ S with | some (x, S1) => p x S1 | none => none) := (rfl)
@[simp] theorem v_bin : dBin p f g ρ S = (match f ρ S with | some (x, S1) => (match g ρ S1 with | some (y, S2) => p x y S2 | none => none) | none => none) := (rfl)
@[simp] theorem v_and : dAnd f g ρ S = (match f ρ S with | some (.bl true, S1) => g ρ S1 | some (.bl false, S1) => some (.bl false, S1) | _ => none) := (rfl)
@[simp] theorem v_or : dOr f g ρ S = (match f ρ S with | some (.bl true, S1) => some (.bl true, S1) | some (.bl false, S1) => g ρ S1 | _ => none) := (rfl)
@[simp] theorem v_not : dNot f ρ S = (match f ρ S with | some (.bl c, S1) => some (.bl (!c), S1) | _ => none) := (rfl)
@[simp] theorem v_if : dIf h f g ρ S = (match h ρ S with | some (.bl true, S1) => f ρ S1 | some (.bl false, S1) => g ρ S1 | _ => none) := (rfl)
@[simp] theorem v_nil : aNil ρ S = some ([], S) := (rfl)
@[simp] theorem v_cons : aCons f fa ρ S = (match f ρ S with | some (x, S1) => (match fa ρ S1 with | some (xs, S2) => some (x :: xs, S2) | none => none) | none => none) := (rfl)
@[simp] theorem v_prim : dPrim pl fa ρ S = (match fa ρ S with | some (xs, S1) => pl xs S1 | none => none) := (rfl)
@[simp] theorem v_next : dNext ρ S = some (.nx ρ S) := (rfl)
@[simp] theorem v_seq : dSeq s t ρ S = (match s ρ S with | some (.nx ρ' S') => t ρ' S' | o => o) := (rfl)
@[simp] theorem v_break : dBreak ρ S = some (.bk ρ S) := (rfl)
@[simp] theorem v_cont : dCont ρ S = some (.ct ρ S) := (rfl)
@[simp] theorem v_expr : dExpr f ρ S = (match f ρ S with | some (_, S') => some (.nx ρ S') | none => none) := (rfl)
@[simp] theorem v_ret : dRet f ρ S = (match f ρ S with | some (d, S') => some (.rt d S') | none => none) := (rfl)
@[simp] theorem v_retN : dRetN ρ S = some (.rt .non S) := (rfl)
@[simp] theorem v_ifS : dIfS f s t ρ S = (match f ρ S with | some (.bl true, S1) => s ρ S1 | some (.bl false, S1) => t ρ S1 | _ => none) := (rfl)
@[simp] theorem v_gset : gSet i d ρ S = some (ρ.set i (some d), S) := (rfl)
@[simp] theorem v_set : dSet i f ρ S = (match f ρ S with | some (d, S1) => some (.nx (ρ.set i (some d)) S1) | none => none) := (rfl)
@[simp] theorem v_isi {T : Ty7} : dIsi T f ρ S = (match f ρ S with | some (x, S1) => (match tyD S1 x with | some t => some (.bl (isT t T), S1) | none => none) | none => none) := (rfl)
@[simp] theorem v_for {it : DI} {gt : DG} : dFor it gt s ρ S = (match it ρ S with | some (ds, S1) => forL gt s ds ρ S1 | none => none) := (rfl)
@[simp] theorem v_aug : dAug i p f ρ S = (match ρ[i]? with | some (some x) => (match f ρ S with | some (y, S1) => (match p x y S1 with | some (d, S2) => some (.nx (ρ.set i (some d)) S2) | none => none) | none => none) | _ => none) := (rfl)
@[simp] theorem cP_eq : cP pf [] xs S = (match cpL true S xs with | some ys => (match pf ys with | some d => some (d, S) | none => none) | none => none) := by
  unfold cP
  rw [List.append_nil] <;> rfl
@[simp] theorem cM_eq {pm : List DV → Option (List DV)} : cM pm [] xs S = (match cpL true S xs with | some ys => (match pm ys with | some es => some (.loc S.length, S ++ [.lst es]) | none => none) | none => none) := by
  unfold cM
  rw [List.append_nil] <;> rfl
@[simp] theorem v_subI {a b : Int} : pSub (.int a) (.int b) S = some (.int (a - b), S) := (rfl)
@[simp] theorem v_addI {a b : Int} : pAdd (.int a) (.int b) S = some (.int (a + b), S) := (rfl)
@[simp] theorem v_addI2 {a b : Int} : pAddI (.int a) (.int b) S = some (.int (a + b), S) := (rfl)
@[simp] theorem v_andI {a b : Int} : pAnd (.int a) (.int b) S = some (.int (Builtin.bitAnd a b), S) := (rfl)
@[simp] theorem v_orI {a b : Int} : pOr (.int a) (.int b) S = some (.int (Builtin.bitOr a b), S) := (rfl)
@[simp] theorem v_xorI {a b : Int} : pXor (.int a) (.int b) S = some (.int (Builtin.bitXor a b), S) := (rfl)
@[simp] theorem v_neg {a : Int} : pNeg (.int a) S = some (.int (-a), S) := (rfl)
theorem v_modI {a b : Int} (h : 0 < b) : pMod (.int a) (.int b) S = some (.int (a % b), S) := by
  show (match gMod a b with | some k => some (DV.int k, S) | none => none) = _
  unfold gMod
  rw [if_pos h]
theorem v_divI {a b : Int} (h : 0 < b) (h2 : b < 18446744073709551616) : pDiv (.int a) (.int b) S = some (.int (a / b), S) := by
  have h3 : b.natAbs < 2 ^ 64 := by omega
  have h4 : b.natAbs.log2 < 64 := (Nat.log2_lt (by omega)).mpr h3
  have e : gDiv a b = some (a / b) := by
    unfold gDiv
    exact if_pos ⟨h, by omega⟩
  show (match gDiv a b with | some k => some (DV.int k, S) | none => none) = _
  rw [e]
theorem v_mulI {a b : Int} (h : -18446744073709551616 < b ∧ b < 18446744073709551616) : pMul (.int a) (.int b) S = some (.int (a * b), S) := by
  show (match gMul a b with | some k => some (DV.int k, S) | none => none) = _
  unfold gMul
  rw [if_pos (.inl (.inr (by omega)))]
@[simp] theorem v_addL {k l : LK} {xs ys : List DV} (hk : k ≠ .ext := by decide) (hl : l ≠ .ext := by decide) : pAdd (.lst k xs) (.lst l ys) S = (if xs.length + ys.length ≤ sizeLine then some (.lst .own (xs ++ ys), S) else none) := by
  cases k <;> cases l <;> first | rfl | exact absurd rfl hk | exact absurd rfl hl
@[simp] theorem v_addS {a b : Str} : pAdd (.str a) (.str b) S = (if a.length + b.length ≤ sizeLine then some (.str (a ++ b), S) else none) := (rfl)
@[simp] theorem v_addT {xs ys : List DV} : pAdd (.tup xs) (.tup ys) S = (if xs.length + ys.length ≤ sizeLine then some (.tup (xs ++ ys), S) else none) := (rfl)
@[simp] theorem v_pLst {xs : List DV} : pLst xs S = (if xs.length ≤ sizeLine then some (.lst .own xs, S) else none) := (rfl)
@[simp] theorem v_pLstM {xs : List DV} : pLstM xs S = (if xs.length ≤ sizeLine then some (.loc S.length, S ++ [.lst xs]) else none) := (rfl)
@[simp] theorem v_pTup {xs : List DV} : pTup xs S = (if xs.length ≤ sizeLine then some (.tup xs, S) else none) := (rfl)
@[simp] theorem size_eq : sizeLine = 16777216 := (rfl)
@[simp] theorem v_lt {a b : Int} : pLt (.int a) (.int b) S = some (.bl (decide (a < b)), S) := (rfl)
@[simp] theorem v_le {a b : Int} : pLe (.int a) (.int b) S = some (.bl (decide (a ≤ b)), S) := (rfl)
@[simp] theorem v_gt {a b : Int} : pGt (.int a) (.int b) S = some (.bl (decide (b < a)), S) := (rfl)
@[simp] theorem v_ge {a b : Int} : pGe (.int a) (.int b) S = some (.bl (decide (b ≤ a)), S) := (rfl)
@[simp] theorem v_eqI {a b : Int} : pEq false (.int a) (.int b) S = some (.bl (decide (a = b)), S) := (rfl)
@[simp] theorem v_neI {a b : Int} : pEq true (.int a) (.int b) S = some (.bl (!decide (a = b)), S) := (rfl)
@[simp] theorem v_eqS {a b : Str} : pEq false (.str a) (.str b) S = some (.bl (decide (a = b)), S) := (rfl)
@[simp] theorem v_neS {a b : Str} : pEq true (.str a) (.str b) S = some (.bl (!decide (a = b)), S) := (rfl)
@[simp] theorem v_isN : pIs false d .non S = some (.bl (isNon d), S) := (rfl)
@[simp] theorem v_isnN : pIs true d .non S = some (.bl (!isNon d), S) := (rfl)
end
@[simp] theorem isNon_int {i : Int} : isNon (.int i) = false := (rfl)
@[simp] theorem isNon_str {i : Str} : isNon (.str i) = false := (rfl)
@[simp] theorem isNon_non : isNon .non = true := (rfl)
@[simp] theorem isNon_loc {n : Nat} : isNon (.loc n) = false := (rfl)
section
variable {f : DE} {ρ : Ev} {S : Sto}
@[simp] theorem iSeq_eq : iSeq f ρ S = (match f ρ S with | some (x, S1) => (match x with | .tup ds => some (ds, S1) | .tupx ds => some (ds, S1) | .lst _ ds => some (ds, S1) | .str s => some (s.cps.toList.map fun c => .str ⟨#[c]⟩, S1) | .loc n => (match S1[n]? with | some (.frz (.lst _ ds)) => some (ds, S1) | _ => none) | _ => none) | none => none) := (rfl)
end
/-! ### places -/
theorem ixN_nat {n k : Nat} (h : k < n) : ixN n (k : Int) = some k := by
  unfold ixN
  rw [if_pos (by omega), if_pos (by omega), Int.toNat_natCast]
section
variable {S : Sto} {ds : List DV} {i : Int} {d : DV}
theorem ix_seq {k : LK} (h : atD ds i = some d) : pIx (.lst k ds) (.int i) S = some (d, S) := by
  show (match atD ds i with | some d => some (d, S) | none => none) = _
  rw [h]
theorem ix_tup (h : atD ds i = some d) : pIx (.tup ds) (.int i) S = some (d, S) := by
  show (match atD ds i with | some d => some (d, S) | none => none) = _
  rw [h]
theorem ix_str {s : Str} {c : Nat} (hl : s.length ≤ sizeLine) (h : atI s.cps.toList i = some c) : pIx (.str s) (.int i) S = some (.str ⟨#[c]⟩, S) := by
  show (if s.length ≤ sizeLine then (match atI s.cps.toList i with | some c => some (DV.str ⟨#[c]⟩, S) | none => none) else none) = _
  rw [if_pos hl, h]
theorem atD_nat {k : Nat} (h : ds[k]? = some d) : atD ds (k : Int) = some d := by
  unfold atD
  rw [ixN_nat (List.getElem?_eq_some_iff.mp h).1]
  exact h
theorem atD_int (h0 : 0 ≤ i) (h : ds[i.toNat]? = some d) : atD ds i = some d := by
  have := atD_nat h
  rwa [Int.toNat_of_nonneg h0] at this
end

/-! ### comprehensions and loops -/
inductive All2 {α β : Type} (P : α → β → Prop) : List α → List β → Prop where
  | nil : All2 P [] []
  | cons {a b as bs} (h : P a b) (t : All2 P as bs) : All2 P (a :: as) (b :: bs)
theorem lcL_all {g : DG} {c fe : DE} {ρ : Ev} {S : Sto} {P : DV → DV → Prop} : ∀ {ds : List DV}, (∀ d ∈ ds, ∃ ρ1 y, g d ρ S = some (ρ1, S) ∧ c ρ1 S = some (.bl true, S) ∧ fe ρ1 S = some (y, S) ∧ P d y) → ∃ ys, lcL g c fe ρ ds S = some (ys, S) ∧ All2 P ds ys
  | [], _ => ⟨[], rfl, .nil⟩
  | d :: ds, h => by
    obtain ⟨ρ1, y, h1, h2, h3, h4⟩ := h d List.mem_cons_self
    obtain ⟨ys, e, f⟩ := lcL_all (ds := ds) fun d hd => h d (List.mem_cons_of_mem _ hd)
    refine ⟨y :: ys, ?_, .cons h4 f⟩
    unfold lcL
    simp only [h1, h2, h3, e]
theorem lcL_map {g : DG} {c fe : DE} {ρ : Ev} {S : Sto} {f : DV → DV} {ds : List DV} (h : ∀ d ∈ ds, ∃ ρ1, g d ρ S = some (ρ1, S) ∧ c ρ1 S = some (.bl true, S) ∧ fe ρ1 S = some (f d, S)) : lcL g c fe ρ ds S = some (ds.map f, S) := by
  obtain ⟨ys, e, hf⟩ := lcL_all (P := fun d y => y = f d) fun d hd => by
    obtain ⟨ρ1, h1, h2, h3⟩ := h d hd
    exact ⟨ρ1, _, h1, h2, h3, rfl⟩
  rw [e]
  have : ∀ {ds ys : List DV}, All2 (fun d y => y = f d) ds ys → ys = ds.map f := fun {ds ys} h => by
    induction h with
    | nil => rfl
    | cons a _ ih => rw [a, ih] <;> rfl
  rw [this hf]
theorem lcR_of {it : DI} {g : DG} {c fe : DE} {vs : List Nat} {ρ : Ev} {S S1 S2 : Sto} {ds ys : List DV} (hi : it ρ S = some (ds, S1)) (hl : lcL g c fe (dwipe ρ vs) ds S1 = some (ys, S2)) (hz : ys.length ≤ sizeLine) : lcR it g c fe vs ρ S = some (ys, S2) := by
  unfold lcR
  simp only [hi, hl]
  rw [if_pos hz]
theorem dLc_of {it : DI} {g : DG} {c fe : DE} {vs : List Nat} {ρ : Ev} {S S1 S2 : Sto} {ds ys : List DV} (hi : it ρ S = some (ds, S1)) (hl : lcL g c fe (dwipe ρ vs) ds S1 = some (ys, S2)) (hz : ys.length ≤ sizeLine) : dLc it g c fe vs ρ S = some (.lst .own ys, S2) := by
  unfold dLc
  simp only [lcR_of hi hl hz]
theorem size_ok {n : Nat} (h : n ≤ 1000000) : n ≤ sizeLine := Nat.le_trans h (by decide)
end Dn

namespace Dn
open PySem PySem.Spec PyProof.Rows L2
/-! ### texts of single signs -/
abbrev one1 (c : Nat) : Str := ⟨#[c]⟩
def txt (cs : List Nat) : Str := ⟨cs.toArray⟩
theorem joinL_nil : ∀ ls : List (List Nat), TL.joinL [] ls = ls.flatten
  | [] => rfl
  | [a] => by simp [TL.joinL]
  | a :: b :: r => by
    have ih := joinL_nil (b :: r)
    simp only [TL.joinL] at ih ⊢
    simp [ih]
theorem join_ones (cs : List Nat) : Txt.join "" (cs.map one1) = txt cs := by
  apply TL.ext_tl
  rw [TL.join_eq, TL.tl_join]
  show TL.joinL [] _ = cs
  rw [joinL_nil, List.map_map]
  induction cs with
  | nil => rfl
  | cons a r ih =>
    rw [List.map_cons, List.flatten_cons, ih]
    rfl
theorem strsD_map {α : Type} {f : α → Str} : ∀ {l : List α}, strsD (l.map fun a => .str (f a)) = some (l.map f)
  | [] => rfl
  | a :: l => by
    rw [List.map_cons, List.map_cons]
    unfold strsD
    rw [strsD_map]
theorem ones_sum : ∀ cs : List Nat, ((cs.map one1).map (·.length)).sum = cs.length
  | [] => rfl
  | a :: r => by
    rw [List.map_cons, List.map_cons, List.sum_cons, ones_sum r]
    show 1 + _ = _ + 1
    omega
/-- ''.join of single signs -/
theorem join_signs {f : DE} {ρ : Ev} {S : Sto} {k : LK} {cs : List Nat} (h : f ρ S = some (.lst k (cs.map fun c => .str (one1 c)), S)) (hl : cs.length ≤ 1000000) : dM1 pJoin (dC (.str "")) f ρ S = some (.str (txt cs), S) := by
  unfold dM1
  simp only [v_c, h]
  unfold pJoin itemsD
  simp only [asL, strsD_map]
  have e := ones_sum cs
  rw [if_pos, join_ones]
  rw [e]
  show cs.length + (cs.map one1).length * 0 ≤ _
  omega
def abc : Str := "abcdefghijklmnopqrstuvwxyz"
theorem abc_at : ∀ k < 26, atI abc.cps.toList (k : Nat) = some (97 + k) := by decide +kernel
theorem abc_ix {S : Sto} {i : Int} (h0 : 0 ≤ i) (h1 : i < 26) : pIx (.str "abcdefghijklmnopqrstuvwxyz") (.int i) S = some (.str (one1 (97 + i.toNat)), S) := by
  have e := abc_at i.toNat (by omega)
  rw [Int.toNat_of_nonneg h0] at e
  exact ix_str (s := abc) (by decide) e
theorem All2.mem {α β : Type} {P : α → β → Prop} : ∀ {as : List α} {bs : List β}, All2 P as bs → ∀ b ∈ bs, ∃ a ∈ as, P a b
  | _, _, .nil, b, h => by cases h
  | _, _, .cons h t, b, hb => by
    rcases List.mem_cons.mp hb with rfl | hb
    · exact ⟨_, List.mem_cons_self, h⟩
    · obtain ⟨a, h1, h2⟩ := All2.mem t b hb
      exact ⟨a, List.mem_cons_of_mem _ h1, h2⟩
theorem All2.len {α β : Type} {P : α → β → Prop} : ∀ {as : List α} {bs : List β}, All2 P as bs → as.length = bs.length
  | _, _, .nil => rfl
  | _, _, .cons h t => by rw [List.length_cons, List.length_cons, t.len]
/-! ### equal data -/
mutual
/-- data that == can look at -/
def good : DV → Bool
  | .non => true
  | .bl _ => true
  | .int _ => true
  | .str s => PyData.strOk s
  | .tup ds => goodL ds
  | .lst _ ds => goodL ds
  | _ => false
def goodL : List DV → Bool
  | [] => true
  | d :: ds => good d && goodL ds
end
mutual
def deep : DV → Nat
  | .tup ds => deepL ds + 1
  | .lst _ ds => deepL ds + 1
  | _ => 0
def deepL : List DV → Nat
  | [] => 0
  | d :: ds => max (deep d) (deepL ds)
end
mutual
theorem toPy_good : ∀ {d : DV}, good d = true → ∃ p, toPy d = some p ∧ p.canLay0 = true ∧ p.depth = deep d
  | .non, _ => ⟨_, rfl, rfl, rfl⟩
  | .bl b, _ => ⟨_, rfl, rfl, rfl⟩
  | .int b, _ => ⟨_, rfl, rfl, rfl⟩
  | .str b, h => ⟨_, rfl, h, rfl⟩
  | .tup ds, h => by
    obtain ⟨p, h1, h2, h3⟩ := toPyL_good (ds := ds) h
    refine ⟨.tuple p, ?_, h2, ?_⟩
    · unfold toPy
      rw [h1]
    · show PyData.depthAll p + 1 = _
      rw [h3] <;> rfl
  | .lst k ds, h => by
    obtain ⟨p, h1, h2, h3⟩ := toPyL_good (ds := ds) h
    refine ⟨.list p, ?_, h2, ?_⟩
    · unfold toPy
      rw [h1]
    · show PyData.depthAll p + 1 = _
      rw [h3] <;> rfl
  | .tupx _, h => by cases h
  | .dik _ _ _, h => by cases h
  | .dit _ _ _, h => by cases h
  | .loc _, h => by cases h
theorem toPyL_good : ∀ {ds : List DV}, goodL ds = true → ∃ p, toPyL ds = some p ∧ PyData.canLayAll0 p = true ∧ PyData.depthAll p = deepL ds
  | [], _ => ⟨[], rfl, rfl, rfl⟩
  | d :: ds, h => by
    obtain ⟨h1, h2⟩ := Bool.and_eq_true_iff.mp (show (good d && goodL ds) = true from h)
    obtain ⟨p, a1, a2, a3⟩ := toPy_good h1
    obtain ⟨q, b1, b2, b3⟩ := toPyL_good h2
    refine ⟨p :: q, ?_, ?_, ?_⟩
    · unfold toPyL
      simp only [a1, b1]
    · show (p.canLay0 && PyData.canLayAll0 q) = true
      rw [a2, b2] <;> rfl
    · show max p.depth (PyData.depthAll q) = max (deep d) (deepL ds)
      rw [a3, b3]
end
/-- what a value or a cell holds: for == -/
theorem eqDeep_same {S : Sto} {x y x' y' : DV} {p : PyData} (hx : cpD true S x = some x') (hy : cpD true S y = some y') (px : toPy x' = some p) (py : toPy y' = some p) (hl : p.canLay0 = true) (hd : p.depth ≤ 64) : eqDeep S x y = some true := by
  have s : SeqAt.shaped p = true := by
    unfold SeqAt.shaped
    rw [hl, decide_eq_true hd] <;> rfl
  unfold eqDeep
  simp only [hx, hy, px, py]
  rw [if_pos ⟨s, s⟩, SeqAt.eqv_refl p hl]
/-- two lists of the same items -/
theorem eq_lists {S : Sto} {x y : DV} {k k' : LK} {ds : List DV} (hx : cpD true S x = some (.lst k ds)) (hy : cpD true S y = some (.lst k' ds)) (hg : goodL ds = true) (hd : deepL ds ≤ 63) (hs : scD x y = none) (neg : Bool) : pEq neg x y S = some (.bl (if neg then false else true), S) := by
  obtain ⟨p, h1, h2, h3⟩ := toPyL_good hg
  have t : ∀ k, toPy (.lst k ds) = some (.list p) := fun k => by
    unfold toPy
    rw [h1]
  have e := eqDeep_same hx hy (t _) (t _) h2 (show PyData.depthAll p + 1 ≤ 64 by omega)
  unfold pEq eqD
  rw [hs]
  simp only [e]
  cases neg <;> rfl
/-! ### lists of texts, each once -/
def isStr : DV → Bool
  | .str _ => true
  | _ => false
theorem get_lt {n : Nat} {S : Sto} {c : Cell} (h : S[n]? = some c) : n < S.length := (List.getElem?_eq_some_iff.mp h).1
end Dn

/-! enumerate over a tuple -/
namespace Dn
open PySem PySem.Spec PyProof.Rows L2
set_option maxHeartbeats 1000000 in
theorem meets_enum1 {v : Value} {o : Obj} {H : Heap → Prop} (B : Begins v o H) :
    Meets (Builtin.«enumerate.__new__» ⟨[.type "enumerate", v], []⟩) (fun _ R s => H s.heap ∧
      R (.ok (.ret (.ref (s.heap.push o).objs.size))) { s with heap := (s.heap.push o).push { cls := .type "enumerate", data := .fields #[.none, .bool false, .ref s.heap.objs.size, rawInt 0, .none, .none] } }) :=
  .of_wp fun prog w A R s h => by
    obtain ⟨hp, g, d, tk, os⟩ := s; obtain ⟨h1, h⟩ := h
    have hsub := sub_enumerate
    have q1 : ∀ {A' : Around} {E : Value → Shared → Prop} {Q : Value → Shared → Prop}, Q (.ref hp.objs.size) ⟨hp.push o, g, d, tk, os⟩ → wpAny (model prog w) A' (pyIter v) Q E ⟨hp, g, d, tk, os⟩ :=
      fun q => B.iter prog w _ _ ⟨hp, g, d, tk, os⟩ _ h1 q
    wp_walk using q1
    refine wpAny_stack_any fun st => wpAny_pure ?_
    split
    · rename_i c _ _ _ _ _
      cases (c == Value.type "enumerate")
      · wp_walk using q1
        exact ⟨_, rfl, h⟩
      · wp_walk using q1
        exact ⟨_, rfl, h⟩
    · wp_walk using q1
      exact ⟨_, rfl, h⟩
section
variable {prog : Program} {w : World} {A : Around} {E : Value → Shared → Prop} {s : Shared}
theorem call_enum1 {v : Value} {o : Obj} {H : Heap → Prop} {Q : Value → Shared → Prop} (B : Begins v o H) (h1 : H s.heap)
    (h : ∀ h', IsEnum h' (s.heap.objs.size + 1) s.heap.objs.size 0 .none → h'.get? s.heap.objs.size = some o → h'.objs.size = s.heap.objs.size + 2 →
      (∀ b o, s.heap.get? b = some o → h'.get? b = some o) → Q (.ref (s.heap.objs.size + 1)) { s with heap := h' }) :
    wpAny (model prog w) A (call (.type "enumerate") [v]) Q E s := by
  refine callType_new F.called_enumerate (by decide) (F.typeCall_enumerate_1 _) (F.newCall_enumerate_1 _) (fun obj => F.args_object_init_2 obj _) F.entry_enumerate_new
    (meets_enum1 B) ⟨h1, ?_⟩
  have hz : (s.heap.push o).objs.size = s.heap.objs.size + 1 := Heap.size_push ..
  show _ ∧ _
  rw [hz]
  have he : IsEnum ((s.heap.push o).push { cls := .type "enumerate", data := .fields #[.none, .bool false, .ref s.heap.objs.size, rawInt 0, .none, .none] }) (s.heap.objs.size + 1) s.heap.objs.size 0 .none := by
    have := Heap.get?_push_size (s.heap.push o) (o := { cls := .type "enumerate", data := .fields #[.none, .bool false, .ref s.heap.objs.size, rawInt 0, .none, .none] }) rfl
    rw [hz] at this; exact this
  refine ⟨⟨_, he, rfl⟩, h _ he (Heap.get?_push_of_some _ (Heap.get?_push_size _ B.free)) (by rw [Heap.size_push, hz]) fun b o x => Heap.get?_push_of_some _ (Heap.get?_push_of_some _ x)⟩
end
/-- the tuple at a, each item in a new pair -/
def Itet (K : PySem.W.Frag) (a : Addr) : It :=
  ⟨fun i H => ∃ (xs : List V) (x : V), SqT K H a xs ∧ xs[i]? = some x, fun i H v H' => ∃ T x, v = .ref T ∧ H T = none ∧ H' = upd H T (.tup [.int (i : Nat), x]) ∧ ∀ xs, SqT K H a xs → xs[i]? = some x, fun i H => ∃ xs : List V, SqT K H a xs ∧ xs.length ≤ i⟩
theorem turn_enumT {P : Program} {w : World} {K : PySem.W.Frag} {elts : List Expr} {kk : Nat} {tpos : Pos} (a e it : Addr) :
    Turn P w K (.Tuple elts kk tpos) (Itet K a) [e, it] e (fun i h => (∃ old, IsEnum h e it ((i : Nat) : Int) old) ∧ h.IsTupleIter it a i ∧ e ≠ it) where
  mem := by simp
  obj := fun i h st b hb => by
    obtain ⟨⟨old, he⟩, ⟨o, ho, hc, hd⟩, _⟩ := st
    have e' : b = e ∨ b = it := by simpa using hb
    rcases e' with z | z
    · rw [z]; exact ⟨_, he, fun v q => nomatch q⟩
    · rw [z]; exact ⟨o, ho, fun v q => by rw [hd] at q; cases q⟩
  keep := fun i h h' st k => let ⟨⟨old, he⟩, hi, hne⟩ := st; ⟨⟨old, k e (by simp) _ he⟩, hi.at fun o q => k it (by simp) o q, hne⟩
  item := by
    intro X hP hw hK hc i pins s σ H E I hf st hg
    subst hP hw hK
    obtain ⟨⟨old, he⟩, hit, hne⟩ := st
    obtain ⟨xs, x, hq, hx⟩ := hg
    obtain ⟨its, rv, p, hz⟩ := I.tuple hq
    obtain ⟨u, hu, ru⟩ := rv.get hx
    have hel : e < s.heap.objs.size := Heap.lt_size he
    have hil : it < s.heap.objs.size := by obtain ⟨_, q, _⟩ := hit; exact Heap.lt_size q
    have pt : s.heap.IsTuple a its.toArray := p
    have nai : a ≠ it := fun q => by
      obtain ⟨o1, h1, c1, _⟩ := pt
      obtain ⟨o2, h2, c2, _⟩ := id hit
      rw [q, h2] at h1
      cases h1
      rw [c2] at c1
      exact absurd c1 (by simp)
    have nae : a ≠ e := fun q => by
      obtain ⟨o1, h1, c1, _⟩ := pt
      rw [q, he] at h1
      cases h1
      exact absurd c1 (by simp)
    have hlt : i < its.toArray.size := by
      have := (List.getElem?_eq_some_iff.mp hu).1
      simpa using this
    refine wpAny_pyNext_enum_itemD (Draws.tuple (A := X.A.in1) (I.ok.hd hc) it a nai its.toArray) he ⟨hit, pt⟩ hlt hne (by simp [hne]; exact fun q => nae q.symm) fun x' h' tk hPx ho hst' hT hsz hk => ?_
    have ex' : x' = u := by
      have h2 : its.toArray[i]? = some x' := hPx
      have h3 : its.toArray[i]? = some u := by simpa using hu
      rw [h3] at h2
      exact (Option.some.inj h2).symm
    subst ex'
    refine ⟨_, rfl, wpAny_letOwnedTupleGo_enum (s := { s with heap := h', toks := tk + 1 }) ho fun h'' he' sb => ?_⟩
    have hT2 : h''.get? s.heap.objs.size = some { cls := .type "tuple", data := .seq #[.int i tk, x'] } := (sb.2 _ (Nat.ne_of_gt hel)).trans hT
    have new : ObjOk X.prog X.w (upd H s.heap.objs.size (.tup [.int (i : Nat), x])) h'' s.heap.objs.size (.tup [.int (i : Nat), x]) :=
      ⟨by show 2 ≤ sizeLine; decide, [.int i tk, x'], .cons ⟨_, rfl⟩ (.cons ru .nil), ⟨_, hT2, rfl, _, rfl⟩⟩
    have I1 : Inv X pins σ (upd H s.heap.objs.size (.tup [.int (i : Nat), x])) { s with heap := h'', toks := tk + 1 } :=
      I.turnedNew (ch := [e, it]) (fun b ob hb q => (sb.2 b (fun z => hb (by simp [z]))).trans (hk b ob (fun z => hb (by simp [z])) (fun z => hb (by simp [z])) q)) hf (Nat.le_refl _) new
    refine ⟨.ref s.heap.objs.size, _, I1, rfl, ⟨_, x, rfl, I.hok.fresh (Nat.le_refl _), rfl, fun ys hy => by rw [I.tuple_inj hy hq]; exact hx⟩, ⟨⟨x', ?_⟩, hst'.1.at fun o q => (sb.2 it (Ne.symm hne)).trans q, hne⟩, fun b hb => ?_⟩
    · have e1 : ((i + 1 : Nat) : Int) = (i : Int) + 1 := by omega
      rw [e1]; exact he'
    · have hb' : b < s.heap.objs.size := by
        have e' : b = e ∨ b = it := by simpa using hb
        rcases e' with z | z
        · rw [z]; exact hel
        · rw [z]; exact hil
      rw [upd_ne (Nat.ne_of_lt hb')]
      exact (hf b hb).1
  done := by
    intro X hP hw hK hc i pins s σ H E I hf st hg
    subst hP hw hK
    obtain ⟨⟨old, he⟩, hit, hne⟩ := st
    obtain ⟨xs, hq, hx⟩ := hg
    obtain ⟨its, rv, p, hz⟩ := I.tuple hq
    obtain ⟨f0, f1, f2, f3, f4, f5⟩ := hf it (by simp)
    have hl := rv.length
    have pt : s.heap.IsTuple a its.toArray := p
    have hT : s.TypeIs (.ref e) "enumerate" := ⟨_, he, rfl⟩
    unfold pyNext
    refine wpAny_bind (wpAny_attempt (wpAny_callSpecial?_slot (name := Str.ofString "__next__") hT F.slot_enumerate_next
      (wpAny_call_entry F.slot_enumerate_next hT F.entry_enumerate_next ?_ (F.args_enumerate_next_1 _))))
    show wpAny _ _ (PySem.field (.ref e) 2 >>= _) _ _ _
    refine wpAny_bind (wpAny_field he rfl (x := .ref it) rfl ?_)
    refine wpAny_bind (wpAny_nextOf_tuple_end (I.ok.hd hc) hit pt (by simp; omega) fun h' x he' hx' => ?_)
    obtain ⟨o, ho, hcl⟩ := hx'
    refine wpAny_bind (wpAny_isInstance (T := "StopIteration") (b := true) ⟨o, ho, hcl⟩ isSubtype_stop ?_)
    exact wpAny_pure ⟨rfl, I.turned (t' := s.toks) (fun b o hb q => he' b o hb q) f0 f1 f3 f4 f5⟩
  self := fun A i s Q E st h => let ⟨⟨_, he⟩, _⟩ := st; wpAny_pyIter_enum he h
def iEnT (K : PySem.W.Frag) (ta : TA) : TI := fun σ H R => ta σ H fun vs H1 => ∃ a xs, vs = [.ref a] ∧ SqT K H1 a xs ∧ R (Itet K a) H1
theorem pi_enumT {X : Cx} {e : Expr} {ta : TA} {p pos tpos : Pos} {elts : List Expr} {kk : Nat} (hg : Gl X "enumerate") (hm : X.mg "enumerate" = none) (ha : PA X [e] ta) (hs : starEach [e] X.env = [(false, eval e X.env)] := by rfl) :
    PI X (.Tuple elts kk tpos) (.Call (.Name "enumerate" p) [e] [] pos) (iEnT X.K ta) := by
  refine ⟨fun pins s σ H R I h => ?_⟩
  refine Call_ (ld_blt I hg hm boot_enumerate (PyProof.Rows.callWith_type1 (thn (ha.run pos pins s σ H _ I h) fun us s1 ⟨vs, H1, I1, r1, q1⟩ => ?_) hs rfl))
  obtain ⟨a, xs, ex, hq, q⟩ := q1
  subst ex
  cases r1 with
  | cons r rr =>
    cases rr
    cases r
    obtain ⟨its, rv, p', hz⟩ := I1.tuple hq
    refine call_enum1 (begins_tuple a its.toArray) (show s1.heap.IsTuple a its.toArray from p') fun h' he hit hsz hk => wpAny_pyIter_enum he ?_
    have I2 : Inv X pins σ H1 { s1 with heap := h' } := I1.kept (t' := s1.toks) hk
    refine ⟨s1.heap.objs.size + 1, [s1.heap.objs.size + 1, s1.heap.objs.size], _, _, H1, rfl, I2, turn_enumT a (s1.heap.objs.size + 1) s1.heap.objs.size, ⟨⟨.none, he⟩, ⟨_, hit, rfl, rfl⟩, Nat.succ_ne_self _⟩, fun b hb => ?_, q⟩
    have e' : b = s1.heap.objs.size + 1 ∨ b = s1.heap.objs.size := by simpa using hb
    have hle : s1.heap.objs.size ≤ b := by
      rcases e' with z | z
      · rw [z]; exact Nat.le_add_right _ _
      · rw [z]; exact Nat.le_refl _
    exact I1.fpOk hle (I1.hok.fresh hle)
theorem walks_enumT {F : Fm} {a : Addr} {ds : List DV} (h : ∀ F' S H, Wk F F' → Rep F' S H → ∃ xs, SqT F.K H a xs ∧ RelL F' ds xs) : Walks (Itet F.K a) F (enD 0 ds) := fun i F' S H w _ R => by
  obtain ⟨xs, hs, rl⟩ := h F' S H w R
  refine ⟨fun e => ⟨xs, hs, by rw [e, enD_len, rl.length]; exact Nat.le_refl _⟩, fun d hd => ?_⟩
  rw [enD_get] at hd
  cases hd0 : ds[i]? with
  | none =>
    rw [hd0] at hd
    cases hd
  | some d0 =>
    rw [hd0] at hd
    cases hd
    obtain ⟨x, hx, rx⟩ := rl.get hd0
    refine ⟨⟨xs, x, hs, hx⟩, fun y H' yl => ?_⟩
    obtain ⟨T, x', rfl, hT, rfl, hy⟩ := yl
    have e := (hy xs hs).symm.trans hx
    cases e
    obtain ⟨R', le⟩ := R.add (o := .tup [.int (i : Nat), x]) hT
    exact ⟨_, le, R', T, _, rfl, upd_same, .cons (by rw [Nat.zero_add]; exact rfl) (.cons (rx.le le) rfl)⟩
def iEnum2 (f : DA) : DI := fun ρ S => match f ρ S with
  | some ([.tup ds], S1) => some (enD 0 ds, S1)
  | some ([x], S1) => (match valL S1 x with
    | some ds => some (enD 0 ds, S1)
    | none => none)
  | _ => none
section
variable {X : Cx} {e : Expr} {fa : DA}
theorem id_enum2 {tg : Expr} {es : List Expr} (ha : AD X es fa) (h : ∀ {t : TA}, PA X es t → PI X tg e (L2.iEnum X.K t)) (h2 : ∀ {t : TA}, PA X es t → PI X tg e (iEnT X.K t)) : ID X tg e (iEnum2 fa) :=
  .of (PI.or (h ha.pa) (h2 ha.pa)) fun F S H ρ σ ds S' Q hk R rr hf hq => by
    unfold iEnum2 at hf
    split at hf
    · rename_i es S1 h1
      cases hf
      refine .inr (rdA.go hk R rr h1 fun F1 H1 vs le hk1 R1 r1 rl => ?_)
      obtain ⟨v, rfl, rv⟩ := one rl
      obtain ⟨a, xs, rfl, hs, rl⟩ := rv
      rw [← hk1]
      exact ⟨a, xs, rfl, SqT.of (R1.g _ _ hs), hq _ F1 H1 le R1 (walks_enumT fun F' S' H' w R' => ⟨xs, SqT.of (R'.g _ _ (w.g _ _ hs)), RelL.wk w _ _ rl⟩)⟩
    · rename_i x S1 h1
      split at hf
      · rename_i es hv
        cases hf
        refine .inl (rdA.go hk R rr h1 fun F1 H1 vs le hk1 R1 r1 rl => ?_)
        obtain ⟨v, rfl, rv⟩ := one rl
        obtain ⟨k, rv⟩ := valL_ok R1 rv hv
        obtain ⟨a, xs, rfl, hs, _⟩ := rv.lstSq R1
        rw [← hk1]
        refine ⟨a, xs, rfl, hs, hq _ F1 H1 le R1 (walks_enum fun F' S' H' w R' => ?_)⟩
        obtain ⟨a', xs', e, hs', rl'⟩ := (Rel.wk w _ _ rv).lstSq R'
        cases e
        rw [w.k] at hs'
        exact ⟨xs', hs', rl'⟩
      · cases hf
    · cases hf
end

/-! ### written texts are alike just where they are written alike -/
theorem charNat_inj {x y : Char} (h : x.toNat = y.toNat) : x = y := by
  apply Char.ext
  exact UInt32.toNat_inj.mp h
theorem mapNat_inj : ∀ {l m : List Char}, l.map Char.toNat = m.map Char.toNat → l = m
  | [], [], _ => rfl
  | [], _ :: _, h => by cases h
  | _ :: _, [], h => by cases h
  | x :: l, y :: m, h => by
    rw [List.map_cons, List.map_cons] at h
    injection h with h1 h2
    rw [charNat_inj h1, mapNat_inj h2]
@[simp] theorem ofString_inj {a b : String} : (Str.ofString a = Str.ofString b) = (a = b) := by
  apply propext
  constructor
  · intro h
    rw [Str.ofString_eq_toList, Str.ofString_eq_toList] at h
    have h2 : a.toList.map Char.toNat = b.toList.map Char.toNat := by
      have := congrArg (fun s : Str => s.cps.toList) h
      simpa using this
    exact String.toList_inj.mp (mapNat_inj h2)
  · intro h
    rw [h]
end Dn

namespace Dn
open PySem PySem.Spec PyProof.Rows L2
section
variable {f g : DE} {lo hi : DO} {ρ : Ev} {S : Sto} {p : DV → Option Int → Option Int → Sto → Option (DV × Sto)} {fa : DA} {pm : PM}
@[simp] theorem v_sl : dSl p f lo hi ρ S = (match f ρ S with | some (x, S1) => (match lo ρ S1 with | some (l, S2) => (match hi ρ S2 with | some (u, S3) => p x l u S3 | none => none) | none => none) | none => none) := (rfl)
@[simp] theorem dwipe_nil : dwipe ρ [] = ρ := (rfl)
@[simp] theorem dwipe_cons {v : Nat} {vs : List Nat} : dwipe ρ (v :: vs) = (dwipe ρ vs).set v none := (rfl)
@[simp] theorem v_oN : oNone ρ S = some (none, S) := (rfl)
@[simp] theorem v_oS : oSome f ρ S = (match f ρ S with | some (.int i, S1) => some (some i, S1) | _ => none) := (rfl)
@[simp] theorem v_slS {s : Str} {l u : Option Int} : pSl (.str s) l u S = (if s.length ≤ sizeLine then some (.str (cutS s l u), S) else none) := (rfl)
@[simp] theorem v_slL {k : LK} {xs : List DV} {l u : Option Int} : pSl (.lst k xs) l u S = some (.lst .own (cutD xs l u), S) := (rfl)
@[simp] theorem v_slT {xs : List DV} {l u : Option Int} : pSl (.tup xs) l u S = some (.tup (cutD xs l u), S) := (rfl)
@[simp] theorem v_mt : dMt pm f fa ρ S = (match f ρ S with | some (x, S1) => (match asL S1 x with | some _ => (match fa ρ S1 with | some (xs, S2) => pm x xs S2 | none => none) | none => none) | none => none) := (rfl)
theorem app_loc {n : Nat} {y : DV} {xs : List DV} (h : S[n]? = some (.lst xs)) (hz : xs.length < 16777216) : pAppend (.loc n) [y] S = some (.non, S.set n (.lst (xs ++ [y]))) := by
  unfold pAppend
  simp only [h]
  exact if_pos hz
theorem asL_loc {n : Nat} {xs : List DV} (h : S[n]? = some (.lst xs)) : asL S (.loc n) = some xs := by
  unfold asL
  simp only [h]
@[simp] theorem asL_lst {k : LK} {xs : List DV} : asL S (.lst k xs) = some xs := (rfl)
@[simp] theorem v_lenL {k : LK} {xs : List DV} : pLen [.lst k xs] S = some (.int xs.length, S) := (rfl)
@[simp] theorem v_lenT {xs : List DV} : pLen [.tup xs] S = some (.int xs.length, S) := (rfl)
@[simp] theorem v_lenS {x : Str} : pLen [.str x] S = (if x.length ≤ sizeLine then some (.int x.length, S) else none) := (rfl)
@[simp] theorem v_tupL {k : LK} {xs : List DV} : pTuple [.lst k xs] S = some (.tup xs, S) := (rfl)
@[simp] theorem v_tupT {xs : List DV} : pTuple [.tup xs] S = some (.tup xs, S) := (rfl)
@[simp] theorem v_listT {xs : List DV} : pList [.tup xs] S = some (.lst .own xs, S) := (rfl)
@[simp] theorem v_listL {k : LK} {xs : List DV} : pList [.lst k xs] S = some (.lst .own xs, S) := (rfl)
@[simp] theorem v_intB {b : Bool} : pInt [.bl b] S = some (.int (if b then 1 else 0), S) := (rfl)
@[simp] theorem v_intI {b : Int} : pInt [.int b] S = some (.int b, S) := (rfl)
@[simp] theorem v_chain {p q : P2} {f g h : DE} : dChain p q f g h ρ S = (match f ρ S with
  | some (x, S1) => (match g ρ S1 with
    | some (y, S2) => (match p x y S2 with
      | some (.bl true, S3) => (match h ρ S3 with
        | some (z, S4) => q y z S4
        | none => none)
      | some (.bl false, S3) => some (.bl false, S3)
      | _ => none)
    | none => none)
  | none => none) := (rfl)
@[simp] theorem v_addM {k l : LK} {xs ys : List DV} (hk : k ≠ .ext := by decide) (hl : l ≠ .ext := by decide) : pAddM (.lst k xs) (.lst l ys) S = (if xs.length + ys.length ≤ sizeLine then some (.loc S.length, S ++ [.lst (xs ++ ys)]) else none) := by
  cases k <;> cases l <;> first | rfl | exact absurd rfl hk | exact absurd rfl hl
theorem v_addl {n : Nat} {l : LK} {xs ys : List DV} (h : S[n]? = some (.lst xs)) (hl : l ≠ .ext := by decide) : pAdd (.loc n) (.lst l ys) S = (if xs.length + ys.length ≤ sizeLine then some (.lst .own (xs ++ ys), S) else none) := by
  unfold pAdd asT
  simp only [h]
  cases l <;> first | rfl | exact absurd rfl hl
@[simp] theorem ty_int {i : Int} : tyD S (.int i) = some .int := (rfl)
@[simp] theorem ty_str {i : Str} : tyD S (.str i) = some .str := (rfl)
@[simp] theorem ty_bl {i : Bool} : tyD S (.bl i) = some .bool := (rfl)
@[simp] theorem ty_non : tyD S .non = some .non := (rfl)
@[simp] theorem ty_tup {i : List DV} : tyD S (.tup i) = some .tuple := (rfl)
@[simp] theorem ty_own {i : List DV} : tyD S (.lst .own i) = some .list := (rfl)
@[simp] theorem ty_bor {i : List DV} : tyD S (.lst .bor i) = some .list := (rfl)
end
theorem txt_len (cs : List Nat) : (txt cs).length = cs.length := by
  show cs.toArray.size = _
  simp
theorem All2.get {α β : Type} {P : α → β → Prop} : ∀ {as : List α} {bs : List β} {i : Nat} {a : α}, All2 P as bs → as[i]? = some a → ∃ b, bs[i]? = some b ∧ P a b
  | _, _, i, a, .nil, h => by simp at h
  | _, _, 0, a, .cons p t, h => by
    cases h
    exact ⟨_, rfl, p⟩
  | _, _, i + 1, a, .cons p t, h => by
    rw [List.getElem?_cons_succ] at h
    obtain ⟨b, h1, h2⟩ := t.get h
    exact ⟨b, by rw [List.getElem?_cons_succ]; exact h1, h2⟩
end Dn

/-! objects -/
namespace Dn
open PySem PySem.Spec PyProof.Rows L2
/-- the classes' attributes that instances may have -/
abbrev ATab := List (Str × Str)
section
variable {X : Cx} {e o : Expr} {g : DE} {T : ATab} {f : Str} {pos : Pos}
end

/-! ### methods, makers -/
structure MtC (P : Program) (w : World) (K : PySem.W.Frag) (mg : Str → Option Value) (base : Heap) (C m : Str) (k : Nat) (ps : List Str) (dvs : List V) (f : PL) : Prop where
  ex : ∃ (a : Addr) (fd : FuncData) (ds : List Value), Cls K (He.ga K C) ∧ Meth K (He.ga K C) m a ∧ FnOk P w K mg base CX0 k a fd ps (spS K ps.length f) ∧ Binds K fd ps ds ∧ Vals dvs ds
structure MkC (P : Program) (w : World) (K : PySem.W.Frag) (mg : Str → Option Value) (base : Heap) (C : Str) (k : Nat) (ps : List Str) (dvs : List V) (f : PL) : Prop where
  ex : ∃ (a : Addr) (fd : FuncData) (ds : List Value), mg C = some (.ref (He.ga K C)) ∧ Mk K (He.ga K C) a ∧ FnOk P w K mg base CX0 k a fd ps (spS K ps.length f) ∧ Binds K fd ps ds ∧ Vals dvs ds
section
variable {X : Cx} {e o : Expr} {es : List Expr} {g : DE} {fa : DA} {C m x : Str} {k j : Nat} {ps : List Str} {dvs : List V} {dds : List DV} {np n : Nat} {b0 : DS} {p pos apos : Pos}
end
theorem MtC.of {P : Program} {w : World} {K : PySem.W.Frag} {mg : Str → Option Value} {base : Heap} {C m x : Str} {k : Nat} {ps : List Str} {f : PL} {a : Addr} {fd : FuncData} {qual : Str} {params : Arguments} {body : List Stmt} {scope : Scope}
    (F : FunD K x qual params body scope [] [] a fd) (hc : (He.Fa.cls C).ok K = true) (hm : (He.Fa.meth C m).ok K = true) (ha : a = He.ma K (He.ga K C) m) (h : FnOk P w K mg base CX0 k a fd ps (spS K ps.length f))
    (hb : ∀ (kV doc pm : Value) (an : Option Addr) (cdv ct : Value) (us : List Value), us.length = ps.length → bindArgs (PySem.W.fnOf x qual params body scope .none kV doc pm an cdv ct) ⟨us, []⟩ = pure (ps.zip us)) : MtC P w K mg base C m k ps [] f := by
  subst ha
  exact ⟨_, fd, [], He.cls_ok hc, He.meth_ok hm, h, F.bindsN hb, .nil⟩
theorem MkC.of {P : Program} {w : World} {K : PySem.W.Frag} {mg : Str → Option Value} {base : Heap} {C x : Str} {k : Nat} {ps : List Str} {f : PL} {a : Addr} {fd : FuncData} {qual : Str} {params : Arguments} {body : List Stmt} {scope : Scope}
    (F : FunD K x qual params body scope [] [] a fd) (hg : mg C = some (.ref (He.ga K C))) (hm : (He.Fa.mkr C).ok K = true) (ha : a = He.ma K (He.ga K C) "__init__") (h : FnOk P w K mg base CX0 k a fd ps (spS K ps.length f))
    (hb : ∀ (kV doc pm : Value) (an : Option Addr) (cdv ct : Value) (us : List Value), us.length = ps.length → bindArgs (PySem.W.fnOf x qual params body scope .none kV doc pm an cdv ct) ⟨us, []⟩ = pure (ps.zip us)) : MkC P w K mg base C k ps [] f := by
  subst ha
  exact ⟨_, fd, [], hg, He.mkr_ok hm, h, F.bindsN hb, .nil⟩
def atB (K : PySem.W.Frag) (T : ATab) : Bool := T.all fun p => (He.Fa.cls p.1).ok K && (He.Fa.noat p.1 p.2).ok K
end Dn

/-! loops and comprehensions over a list that may be changed elsewhere: read place by place -/
namespace Dn
open PySem PySem.Spec PyProof.Rows L2
section
variable {X : Cx} {e : Expr} {st : Stmt} {f : DE} {g : DG} {c fe : DE} {vs : List Nat} {t : TG} {tt : TT}
end
end Dn

namespace Dn
open PySem PySem.Spec PyProof.Rows L2
section
variable {X : Cx} {o value a b e : Expr} {f : Str} {pos pos' tpos : Pos} {T : ATab} {g gv : DE}
/-! ### o.f op= v -/
/-! ### is, is not of truths -/
def pIsB (neg : Bool) : P2 := fun x y S => match x, y with
  | .bl a, .bl b => some (.bl (if neg then !decide (a = b) else decide (a = b)), S)
  | _, _ => none
variable {f1 f2 : DE}
@[simp] theorem v_isB {a b : Bool} {S : Sto} : pIsB false (.bl a) (.bl b) S = some (.bl (decide (a = b)), S) := (rfl)
@[simp] theorem v_isnotB {a b : Bool} {S : Sto} : pIsB true (.bl a) (.bl b) S = some (.bl (!decide (a = b)), S) := (rfl)
/-! ### {k: v, ..} -/
end
end Dn

namespace Dn
open PySem PySem.Spec PyProof.Rows L2
/-! ### objects' fields, evaluated -/
section
variable {T : ATab} {f C m : Str} {g o v e : DE} {fa : DA} {ρ : Ev} {S S0 S1 S2 : Sto} {n : Nat} {fs fs' : List (Str × DV)} {d x y : DV} {F : PL} {xs : List DV} {p : P2}
end
section
variable {S S0 S1 S2 S3 : Sto} {n : Nat} {ks : List Key} {vs ds : List DV} {x : Str} {y d : DV} {i : Int} {j : Nat} {ρ : Ev} {f g h v o : DE}
end
/-! ### dicts in plain Lean -/
def lkG {κ α : Type} [DecidableEq κ] : List κ → List α → κ → Option α
  | k :: ks, d :: ds, j => if k = j then some d else lkG ks ds j
  | _, _, _ => none
def putG {κ α : Type} [DecidableEq κ] (ks : List κ) (ds : List α) (j : κ) (x : α) : List α := if hasK ks j = true then rpG j x ks ds else ds ++ [x]
section
variable {κ α : Type} [DecidableEq κ] {f : α → DV} {j : κ} {v : α}
theorem lkD_map : ∀ {ks : List κ} {vs : List α}, lkD ks (vs.map f) j = (lkG ks vs j).map f
  | [], vs => by
    unfold lkD lkG
    rfl
  | k :: ks, [] => by
    unfold lkG
    rfl
  | k :: ks, v :: vs => by
    rw [List.map_cons]
    unfold lkD lkG
    by_cases q : k = j
    · rw [if_pos q, if_pos q] <;> rfl
    · rw [if_neg q, if_neg q]
      exact lkD_map
theorem rpG_mem {P : α → Prop} (hv : P v) : ∀ {ks : List κ} {vs : List α}, (∀ u ∈ vs, P u) → ∀ u ∈ rpG j v ks vs, P u
  | [], vs, h, u, hu => by
    unfold rpG at hu
    cases hu
  | k :: ks, [], h, u, hu => by
    cases hu
  | k :: ks, w :: vs, h, u, hu => by
    unfold rpG at hu
    rcases List.mem_cons.mp hu with e | e
    · by_cases q : k = j
      · rw [if_pos q] at e
        rw [e]
        exact hv
      · rw [if_neg q] at e
        rw [e]
        exact h w List.mem_cons_self
    · exact rpG_mem hv (fun u hu => h u (List.mem_cons_of_mem _ hu)) u e
theorem putG_mem {P : α → Prop} (hv : P v) {ks : List κ} {vs : List α} (h : ∀ u ∈ vs, P u) : ∀ u ∈ putG ks vs j v, P u := by
  unfold putG
  by_cases q : hasK ks j = true
  · rw [if_pos q]
    exact rpG_mem hv h
  · rw [if_neg q]
    intro u hu
    rcases List.mem_append.mp hu with e | e
    · exact h u e
    · rw [List.mem_singleton.mp e]
      exact hv
theorem putG_len {ks : List κ} {vs : List α} (h : ks.length = vs.length) : (putKs ks j).length = (putG ks vs j v).length := by
  unfold putKs putG
  by_cases q : hasK ks j = true
  · rw [if_pos q, if_pos q, rp_len h]
  · rw [if_neg q, if_neg q, List.length_append, List.length_append, h] <;> rfl
theorem putKs_len {ks : List κ} : (putKs ks j).length ≤ ks.length + 1 := by
  unfold putKs
  by_cases q : hasK ks j = true
  · rw [if_pos q]
    omega
  · rw [if_neg q, List.length_append] <;> simp
theorem lkG_mem : ∀ {ks : List κ} {vs : List α} {v : α}, lkG ks vs j = some v → v ∈ vs
  | [], vs, v, h => by
    unfold lkG at h
    cases h
  | k :: ks, [], v, h => by
    unfold lkG at h
    cases h
  | k :: ks, u :: vs, v, h => by
    unfold lkG at h
    by_cases q : k = j
    · rw [if_pos q] at h
      cases h
      exact List.mem_cons_self
    · rw [if_neg q] at h
      exact List.mem_cons_of_mem _ (lkG_mem h)
theorem lkG_has : ∀ {ks : List κ} {vs : List α}, ks.length = vs.length → hasK ks j = true → ∃ v, lkG ks vs j = some v
  | [], vs, _, h => by cases h
  | k :: ks, [], h, _ => by cases h
  | k :: ks, u :: vs, hl, h => by
    unfold lkG
    by_cases q : k = j
    · rw [if_pos q]
      exact ⟨_, rfl⟩
    · rw [if_neg q]
      refine lkG_has (Nat.succ.inj hl) ?_
      unfold hasK at h ⊢
      rw [List.any_cons, decide_eq_false q, Bool.false_or] at h
      exact h
end
/-! ### the plain machine in plain Lean -/
abbrev W40 : Int := 1099511627776
def In40 (z : Int) : Prop := 0 ≤ z ∧ z < 1099511627776
inductive Atm where
  | n (i : Int) | x (s : Str)
def Atm.d : Atm → DV
  | .n i => .int i
  | .x s => .str s
def Atm.Ok : Atm → Prop
  | .n i => In40 i
  | .x _ => True
@[simp] theorem Atm.plain_d {a : Atm} : plain a.d = true := by cases a <;> rfl
inductive PRow where
  | say (a : Atm) | copy (x : Str) (a : Atm) | op (x s : Str) (a b : Atm) | load (x c : Str) | store (c : Str) (a : Atm)
  | take (x s : Str) (a : Atm) | lay (s : Str) (a b : Atm) | hear (x : Str) | ifr (a : Atm) (n : Nat) | go (n : Nat) | endr (a : Atm)
def PRow.d : PRow → DV
  | .say a => .tup [.str "say", a.d]
  | .copy x a => .tup [.str "copy", .str x, a.d]
  | .op x s a b => .tup [.str "op", .str x, .str s, a.d, b.d]
  | .load x c => .tup [.str "load", .str x, .str c]
  | .store c a => .tup [.str "store", .str c, a.d]
  | .take x s a => .tup [.str "take", .str x, .str s, a.d]
  | .lay s a b => .tup [.str "lay", .str s, a.d, b.d]
  | .hear x => .tup [.str "hear", .str x]
  | .ifr a n => .tup [.str "if", a.d, .int n]
  | .go n => .tup [.str "go", .int n]
  | .endr a => .tup [.str "end", a.d]
theorem PRow.plain_d {r : PRow} : plain r.d = true := by cases r <;> simp [PRow.d]
def PRow.led (i : Nat) : PRow → List Nat
  | .endr _ => []
  | .go n => [n]
  | .ifr _ n => [n, i + 1]
  | _ => [i + 1]
def ledD (i : Nat) (r : PRow) : DV := .tup ((r.led i).map fun (n : Nat) => .int n)
def leadsD (rows : List PRow) : List DV := rows.mapIdx ledD
def isSign (s : Str) : Prop := s = "+" ∨ s = "-" ∨ s = "*" ∨ s = "<" ∨ s = "=" ∨ s = "&" ∨ s = "|" ∨ s = "^"
def valS (s : Str) (a b : Int) : Int := if s = "+" then (a + b) % W40 else if s = "-" then (a - b) % W40 else if s = "*" then a * b % W40 else
  if s = "<" then (if a < b then 1 else 0) else if s = "=" then (if a = b then 1 else 0) else if s = "&" then Builtin.bitAnd a b else if s = "|" then Builtin.bitOr a b else Builtin.bitXor a b
theorem bits40 {a b : Int} (ha : In40 a) (hb : In40 b) : In40 (Builtin.bitAnd a b) ∧ In40 (Builtin.bitOr a b) ∧ In40 (Builtin.bitXor a b) := by
  obtain ⟨a0, a1⟩ := ha
  obtain ⟨b0, b1⟩ := hb
  have h1 : a.toNat < 2 ^ 40 := by omega
  have h2 : b.toNat < 2 ^ 40 := by omega
  rw [bitAnd_pp a0 b0, Bits.bitOr_pp a0 b0, Bits.bitXor_pp a0 b0]
  have k1 := Nat.and_lt_two_pow a.toNat h2
  have k2 := Nat.or_lt_two_pow h1 h2
  have k3 := Nat.xor_lt_two_pow h1 h2
  unfold In40
  refine ⟨⟨?_, ?_⟩, ⟨?_, ?_⟩, ⟨?_, ?_⟩⟩ <;> omega
theorem valS_40 {s : Str} {a b : Int} (ha : In40 a) (hb : In40 b) : In40 (valS s a b) := by
  obtain ⟨k1, k2, k3⟩ := bits40 ha hb
  have m : ∀ z : Int, In40 (z % W40) := fun z => ⟨Int.emod_nonneg _ (by decide), Int.emod_lt_of_pos _ (by decide)⟩
  unfold valS
  repeat' split
  all_goals first
    | exact m _
    | exact k1
    | exact k2
    | exact k3
    | exact ⟨by decide, by decide⟩
structure PSt where
  at_ : Nat
  done : Nat
  hears : Nat
  res : Option Int
  hk : List Key
  hv : List Int
  ck : List Key
  cv : List Int
  sk : List Key
  sv : List (List Int)
  gone : List Int
def optI : Option Int → DV
  | none => .non
  | some v => .int v
def PSt.worth (st : PSt) : Atm → Int
  | .n i => i
  | .x s => (lkG st.hk st.hv (.inr s)).getD 0
def PSt.out (st : PSt) (x : Str) (v : Int) : PSt := { st with hk := putKs st.hk (.inr x), hv := putG st.hk st.hv (.inr x) v }
def PSt.cell (st : PSt) (c : Str) : Int := (lkG st.ck st.cv (.inr c)).getD 0
def PSt.shelf (st : PSt) (s : Str) : List Int := (lkG st.sk st.sv (.inr s)).getD [0]
def placeN (l : List Int) (v : Int) : Nat := (v % (l.length : Int)).toNat
/-- a row done, but for where it leads -/
def PSt.does (coming : List Int) (st : PSt) : PRow → PSt
  | .say a => { st with gone := st.gone ++ [st.worth a] }
  | .copy x a => st.out x (st.worth a)
  | .op x s a b => st.out x (valS s (st.worth a) (st.worth b))
  | .load x c => st.out x (st.cell c)
  | .store c a => { st with cv := rpG (.inr c) (st.worth a) st.ck st.cv }
  | .take x s a => st.out x ((st.shelf s).getD (placeN (st.shelf s) (st.worth a)) 0)
  | .lay s a b => { st with sv := rpG (.inr s) ((st.shelf s).set (placeN (st.shelf s) (st.worth a)) (st.worth b)) st.sk st.sv }
  | .hear x => { st.out x (coming.getD st.hears 0) with hears := st.hears + 1 }
  | .ifr _ _ => st
  | .go _ => st
  | .endr a => { st with res := some (st.worth a) }
def PSt.next (st : PSt) : PRow → Nat
  | .ifr a n => if st.worth a = 0 then st.at_ + 1 else n
  | .go n => n
  | .endr _ => st.at_
  | _ => st.at_ + 1
def PSt.step (rows : List PRow) (coming : List Int) (st : PSt) : PSt := match st.res with
  | some _ => st
  | none => match rows[st.at_]? with
    | none => st
    | some r => { st.does coming r with done := st.done + 1, at_ := st.next r }
def PRow.Ok (ck sk : List Key) : PRow → Prop
  | .say a => a.Ok
  | .copy _ a => a.Ok
  | .op _ s a b => isSign s ∧ a.Ok ∧ b.Ok
  | .load _ c => hasK ck (.inr c) = true
  | .store c a => hasK ck (.inr c) = true ∧ a.Ok
  | .take _ s a => hasK sk (.inr s) = true ∧ a.Ok
  | .lay s a b => hasK sk (.inr s) = true ∧ a.Ok ∧ b.Ok
  | .hear _ => True
  | .ifr a _ => a.Ok
  | .go _ => True
  | .endr a => a.Ok
structure PSt.Ok (st : PSt) : Prop where
  hl : st.hk.length = st.hv.length
  hr : ∀ v ∈ st.hv, In40 v
  cl : st.ck.length = st.cv.length
  cr : ∀ v ∈ st.cv, In40 v
  sl : st.sk.length = st.sv.length
  sr : ∀ l ∈ st.sv, l ≠ [] ∧ l.length ≤ 1000 ∧ ∀ v ∈ l, In40 v
  hd : st.hk.length ≤ st.done
  gd : st.gone.length ≤ st.done
theorem in0 : In40 0 := ⟨by decide, by decide⟩
theorem PSt.Ok.worth {st : PSt} (O : st.Ok) {a : Atm} (h : a.Ok) : In40 (st.worth a) := by
  cases a with
  | n i => exact h
  | x s =>
    show In40 ((lkG st.hk st.hv (.inr s)).getD 0)
    cases e : lkG st.hk st.hv (.inr s) with
    | none => exact in0
    | some v => exact O.hr v (lkG_mem e)
theorem PSt.Ok.shelf {st : PSt} (O : st.Ok) {s : Str} (h : hasK st.sk (.inr s) = true) : lkG st.sk st.sv (.inr s) = some (st.shelf s) ∧ st.shelf s ≠ [] ∧ (st.shelf s).length ≤ 1000 ∧ ∀ v ∈ st.shelf s, In40 v := by
  obtain ⟨l, e⟩ := lkG_has O.sl h
  have e2 : st.shelf s = l := by
    unfold PSt.shelf
    rw [e]
    rfl
  rw [e2]
  exact ⟨e, O.sr l (lkG_mem e)⟩
theorem PSt.Ok.cell {st : PSt} (O : st.Ok) {c : Str} (h : hasK st.ck (.inr c) = true) : lkG st.ck st.cv (.inr c) = some (st.cell c) ∧ In40 (st.cell c) := by
  obtain ⟨l, e⟩ := lkG_has O.cl h
  have e2 : st.cell c = l := by
    unfold PSt.cell
    rw [e]
    rfl
  rw [e2]
  exact ⟨e, O.cr l (lkG_mem e)⟩
theorem PSt.Ok.out {st : PSt} (O : st.Ok) {x : Str} {v : Int} (hv : In40 v) {d : Nat} (hd : st.done + 1 ≤ d) {h : Nat} {a : Nat} {r : Option Int} : PSt.Ok { st.out x v with done := d, hears := h, at_ := a, res := r } :=
  ⟨putG_len O.hl, putG_mem hv O.hr, O.cl, O.cr, O.sl, O.sr, by
    have h1 : (putKs st.hk (Sum.inr x : Key)).length ≤ st.hk.length + 1 := putKs_len
    have h2 := O.hd
    show (putKs st.hk (Sum.inr x : Key)).length ≤ d
    omega, by
    have h2 := O.gd
    show st.gone.length ≤ d
    omega⟩
theorem placeN_lt {l : List Int} (h : l ≠ []) (v : Int) : placeN l v < l.length := by
  have h1 : 0 < l.length := List.length_pos_iff.mpr h
  have h2 := Int.emod_lt_of_pos v (b := (l.length : Int)) (by omega)
  have h3 := Int.emod_nonneg v (b := (l.length : Int)) (by omega)
  unfold placeN
  omega
theorem PSt.Ok.step {st : PSt} (O : st.Ok) {rows : List PRow} {coming : List Int} (hc : ∀ v ∈ coming, In40 v) (hr : ∀ r ∈ rows, r.Ok st.ck st.sk) : (st.step rows coming).Ok ∧ (st.step rows coming).ck = st.ck ∧ (st.step rows coming).sk = st.sk := by
  unfold PSt.step
  cases e : st.res with
  | some v => exact ⟨O, rfl, rfl⟩
  | none =>
    cases e2 : rows[st.at_]? with
    | none => exact ⟨O, rfl, rfl⟩
    | some r =>
      have hok := hr r (List.mem_of_getElem? e2)
      have hd := O.hd
      have gd := O.gd
      cases r with
      | say a => exact ⟨⟨O.hl, O.hr, O.cl, O.cr, O.sl, O.sr, Nat.le_succ_of_le hd, by simp [PSt.does]; omega⟩, rfl, rfl⟩
      | copy x a => exact ⟨O.out (O.worth hok) (Nat.le_refl _), rfl, rfl⟩
      | op x s a b => exact ⟨O.out (valS_40 (O.worth hok.2.1) (O.worth hok.2.2)) (Nat.le_refl _), rfl, rfl⟩
      | load x c => exact ⟨O.out (O.cell hok).2 (Nat.le_refl _), rfl, rfl⟩
      | store c a => exact ⟨⟨O.hl, O.hr, (O.cl.trans ((rp_len O.cl).trans O.cl).symm), rpG_mem (O.worth hok.2) O.cr, O.sl, O.sr, Nat.le_succ_of_le hd, Nat.le_succ_of_le gd⟩, rfl, rfl⟩
      | take x s a =>
        obtain ⟨_, s1, _, s2⟩ := O.shelf hok.1
        refine ⟨O.out ?_ (Nat.le_refl _), rfl, rfl⟩
        have hlt := placeN_lt s1 (st.worth a)
        rw [List.getD_eq_getElem?_getD, List.getElem?_eq_getElem hlt]
        exact s2 _ (List.getElem_mem hlt)
      | lay s a b =>
        obtain ⟨_, s1, s3, s2⟩ := O.shelf hok.1
        refine ⟨⟨O.hl, O.hr, O.cl, O.cr, (O.sl.trans ((rp_len O.sl).trans O.sl).symm), rpG_mem (P := fun l => l ≠ [] ∧ l.length ≤ 1000 ∧ ∀ v ∈ l, In40 v) ⟨?_, by rw [List.length_set]; exact s3, fun v hv => ?_⟩ O.sr, Nat.le_succ_of_le hd, Nat.le_succ_of_le gd⟩, rfl, rfl⟩
        · exact fun q => s1 (by simpa using q)
        · rcases List.mem_or_eq_of_mem_set hv with h | h
          · exact s2 v h
          · rw [h]
            exact O.worth hok.2.2
      | hear x =>
        refine ⟨O.out ?_ (Nat.le_refl _), rfl, rfl⟩
        rw [List.getD_eq_getElem?_getD]
        cases e3 : coming[st.hears]? with
        | none => exact in0
        | some v => exact hc v (List.mem_of_getElem? e3)
      | ifr a n => exact ⟨⟨O.hl, O.hr, O.cl, O.cr, O.sl, O.sr, Nat.le_succ_of_le hd, Nat.le_succ_of_le gd⟩, rfl, rfl⟩
      | go n => exact ⟨⟨O.hl, O.hr, O.cl, O.cr, O.sl, O.sr, Nat.le_succ_of_le hd, Nat.le_succ_of_le gd⟩, rfl, rfl⟩
      | endr a => exact ⟨⟨O.hl, O.hr, O.cl, O.cr, O.sl, O.sr, Nat.le_succ_of_le hd, Nat.le_succ_of_le gd⟩, rfl, rfl⟩
end Dn

namespace Dn
open PySem PySem.Spec PyProof.Rows L2
/-! ### tuples' places -/
section
variable {a b c d e x : DV} {S : Sto} {s t u y : Str}
@[simp] theorem ix_t1_0 : pIx (.tup [a]) (.int 0) S = some (a, S) := (rfl)
@[simp] theorem ix_t2_0 : pIx (.tup [a, b]) (.int 0) S = some (a, S) := (rfl)
@[simp] theorem ix_t2_1 : pIx (.tup [a, b]) (.int 1) S = some (b, S) := (rfl)
@[simp] theorem ix_t3_0 : pIx (.tup [a, b, c]) (.int 0) S = some (a, S) := (rfl)
@[simp] theorem ix_t3_1 : pIx (.tup [a, b, c]) (.int 1) S = some (b, S) := (rfl)
@[simp] theorem ix_t3_2 : pIx (.tup [a, b, c]) (.int 2) S = some (c, S) := (rfl)
@[simp] theorem ix_t4_0 : pIx (.tup [a, b, c, d]) (.int 0) S = some (a, S) := (rfl)
@[simp] theorem ix_t4_1 : pIx (.tup [a, b, c, d]) (.int 1) S = some (b, S) := (rfl)
@[simp] theorem ix_t4_2 : pIx (.tup [a, b, c, d]) (.int 2) S = some (c, S) := (rfl)
@[simp] theorem ix_t4_3 : pIx (.tup [a, b, c, d]) (.int 3) S = some (d, S) := (rfl)
@[simp] theorem ix_t5_0 : pIx (.tup [a, b, c, d, e]) (.int 0) S = some (a, S) := (rfl)
@[simp] theorem ix_t5_1 : pIx (.tup [a, b, c, d, e]) (.int 1) S = some (b, S) := (rfl)
@[simp] theorem ix_t5_2 : pIx (.tup [a, b, c, d, e]) (.int 2) S = some (c, S) := (rfl)
@[simp] theorem ix_t5_3 : pIx (.tup [a, b, c, d, e]) (.int 3) S = some (d, S) := (rfl)
@[simp] theorem ix_t5_4 : pIx (.tup [a, b, c, d, e]) (.int 4) S = some (e, S) := (rfl)
theorem eqF_str : eqF (.str s) (.str y) = decide (s = y) := by
  show (s == y) = _
  by_cases q : s = y
  · rw [q]
    simp
  · rw [decide_eq_false q]
    simpa using q
@[simp] theorem in_t3 : pIn false (.str y) (.tup [.str s, .str t, .str u]) S = some (.bl (decide (s = y) || (decide (t = y) || decide (u = y))), S) := by
  unfold pIn
  simp [inD, eqF_str, flD]
end
/-! ### the plain machine in the store -/
structure PLoc where
  o : Nat
  l : Nat
  c : Nat
  h : Nat
  ce : Nat
  p : Nat
  g : Nat
  ss : List Nat
def PLoc.fp (L : PLoc) : List Nat := L.o :: L.l :: L.c :: L.h :: L.ce :: L.p :: L.g :: L.ss
def plF (rows : List PRow) (L : PLoc) (st : PSt) : List (Str × DV) :=
  [("rows", .tup (rows.map PRow.d)), ("leads", .loc L.l), ("coming", .loc L.c), ("at", .int st.at_), ("held", .loc L.h), ("cells", .loc L.ce), ("places", .loc L.p), ("gone", .loc L.g), ("hears", .int st.hears), ("done", .int st.done), ("result", optI st.res)]
structure PlAt (S : Sto) (L : PLoc) (rows : List PRow) (coming : List Int) (st : PSt) : Prop where
  o : S[L.o]? = some (.ins "Plain" (plF rows L st))
  l : S[L.l]? = some (.lst (leadsD rows))
  c : S[L.c]? = some (.lst (coming.map .int))
  h : S[L.h]? = some (.dik st.hk (st.hv.map .int))
  ce : S[L.ce]? = some (.dik st.ck (st.cv.map .int))
  p : S[L.p]? = some (.dik st.sk (L.ss.map .loc))
  g : S[L.g]? = some (.lst (st.gone.map .int))
  s : ∀ (i : Nat) (l : List Int), st.sv[i]? = some l → ∃ n : Nat, L.ss[i]? = some n ∧ S[n]? = some (Cell.lst (l.map DV.int))
  sl : L.ss.length = st.sv.length
  sk : st.sk.Nodup
  skl : st.sk.length = st.sv.length
  nd : L.fp.Nodup
/-- what else is in the store stays -/
def Fr (L : PLoc) (S S1 : Sto) : Prop := S1.length = S.length ∧ ∀ i, i ∉ L.fp → S1[i]? = S[i]?
theorem Fr.refl {L : PLoc} {S : Sto} : Fr L S S := ⟨rfl, fun _ _ => rfl⟩
theorem Fr.trans {L : PLoc} {S S1 S2 : Sto} (a : Fr L S S1) (b : Fr L S1 S2) : Fr L S S2 := ⟨b.1.trans a.1, fun i h => (b.2 i h).trans (a.2 i h)⟩
theorem Fr.set {L : PLoc} {S : Sto} {n : Nat} {c : Cell} (h : n ∈ L.fp) : Fr L S (S.set n c) := ⟨List.length_set, fun i hi => List.getElem?_set_ne fun q => hi (by rw [← q]; exact h)⟩
section
variable {S S' : Sto} {L : PLoc} {rows : List PRow} {coming : List Int} {st : PSt}
theorem PlAt.ext (A : PlAt S L rows coming st) (e : ∀ i, i ∈ L.fp → S'[i]? = S[i]?) : PlAt S' L rows coming st := by
  have m : ∀ n ∈ L.ss, n ∈ L.fp := fun n h => by simp [PLoc.fp, h]
  refine ⟨?_, ?_, ?_, ?_, ?_, ?_, ?_, fun i l hl => ?_, A.sl, A.sk, A.skl, A.nd⟩
  · rw [e _ (by simp [PLoc.fp])]; exact A.o
  · rw [e _ (by simp [PLoc.fp])]; exact A.l
  · rw [e _ (by simp [PLoc.fp])]; exact A.c
  · rw [e _ (by simp [PLoc.fp])]; exact A.h
  · rw [e _ (by simp [PLoc.fp])]; exact A.ce
  · rw [e _ (by simp [PLoc.fp])]; exact A.p
  · rw [e _ (by simp [PLoc.fp])]; exact A.g
  · obtain ⟨n, h1, h2⟩ := A.s i l hl
    exact ⟨n, h1, by rw [e _ (m n (List.mem_of_getElem? h1))]; exact h2⟩
theorem rpG_get {κ α : Type} [DecidableEq κ] {j : κ} {v : α} : ∀ {ks : List κ} {vs : List α} {i : Nat}, (rpG j v ks vs : List α)[i]? = match ks[i]?, vs[i]? with
    | some k, some u => some (if k = j then v else u)
    | _, _ => none
  | [], vs, i => by
    unfold rpG
    simp
  | k :: ks, [], i => by
    unfold rpG
    cases h : (k :: ks)[i]? <;> simp
  | k :: ks, u :: vs, 0 => by
    unfold rpG
    rfl
  | k :: ks, u :: vs, i + 1 => by
    unfold rpG
    rw [List.getElem?_cons_succ, List.getElem?_cons_succ, List.getElem?_cons_succ, rpG_get]
theorem lkG_ix {κ α : Type} [DecidableEq κ] {j : κ} {v : α} : ∀ {ks : List κ} {vs : List α}, lkG ks vs j = some v → ∃ i : Nat, ks[i]? = some j ∧ vs[i]? = some v ∧ ∀ {β : Type} {us : List β} {u : β}, us[i]? = some u → lkG ks us j = some u
  | [], vs, h => by
    unfold lkG at h
    cases h
  | k :: ks, [], h => by
    unfold lkG at h
    cases h
  | k :: ks, w :: vs, h => by
    unfold lkG at h
    by_cases q : k = j
    · rw [if_pos q] at h
      refine ⟨0, by rw [← q] <;> rfl, h, fun {β us u} hu => ?_⟩
      cases us with
      | nil => cases hu
      | cons x us =>
        unfold lkG
        rw [if_pos q]
        exact hu
    · rw [if_neg q] at h
      obtain ⟨i, h1, h2, h3⟩ := lkG_ix h
      refine ⟨i + 1, h1, h2, fun {β us u} hu => ?_⟩
      cases us with
      | nil => cases hu
      | cons x us =>
        unfold lkG
        rw [if_neg q]
        exact h3 hu
theorem nodup_ix {α : Type} {a : α} : ∀ {l : List α} {i j : Nat}, l.Nodup → l[i]? = some a → l[j]? = some a → i = j
  | [], i, j, _, h, _ => by simp at h
  | x :: l, 0, 0, _, _, _ => rfl
  | x :: l, 0, j + 1, n, h, h2 => by
    rw [List.nodup_cons] at n
    have e : x = a := by simpa using h
    exact absurd (List.mem_of_getElem? (by simpa using h2)) (by rw [← e]; exact n.1)
  | x :: l, i + 1, 0, n, h, h2 => by
    rw [List.nodup_cons] at n
    have e : x = a := by simpa using h2
    exact absurd (List.mem_of_getElem? (by simpa using h)) (by rw [← e]; exact n.1)
  | x :: l, i + 1, j + 1, n, h, h2 => by
    rw [List.nodup_cons] at n
    have h' : l[i]? = some a := by simpa using h
    have h2' : l[j]? = some a := by simpa using h2
    exact congrArg (· + 1) (nodup_ix n.2 h' h2')
/-- where a shelf's places are -/
theorem PlAt.shelf (A : PlAt S L rows coming st) {s : Str} {l : List Int} (h : lkG st.sk st.sv (.inr s) = some l) : ∃ n : Nat, n ∈ L.fp ∧ lkD st.sk (L.ss.map .loc) (.inr s) = some (.loc n) ∧ S[n]? = some (Cell.lst (l.map DV.int)) ∧
    ∀ l', PlAt (S.set n (.lst (l'.map .int))) L rows coming { st with sv := rpG (.inr s) l' st.sk st.sv } := by
  obtain ⟨i, h1, h2, h3⟩ := lkG_ix h
  obtain ⟨n, h4, h5⟩ := A.s i l h2
  have hm : n ∈ L.ss := List.mem_of_getElem? h4
  have nd := A.nd
  simp only [PLoc.fp, List.nodup_cons, List.mem_cons, not_or] at nd
  obtain ⟨⟨n1, n2, n3, n4, n5, n6, n7⟩, ⟨l1, l2, l3, l4, l5, l6⟩, ⟨c1, c2, c3, c4, c5⟩, ⟨k1, k2, k3, k4⟩, ⟨e1, e2, e3⟩, ⟨p1, p2⟩, g1, ns⟩ := nd
  refine ⟨n, by simp [PLoc.fp, hm], by rw [lkD_map, h3 h4] <;> rfl, h5, fun l' => ⟨?_, ?_, ?_, ?_, ?_, ?_, ?_, fun i' u hu => ?_, ?_, A.sk, ?_, A.nd⟩⟩
  · rw [List.getElem?_set_ne fun q => n7 (by rw [← q]; exact hm)]; exact A.o
  · rw [List.getElem?_set_ne fun q => l6 (by rw [← q]; exact hm)]; exact A.l
  · rw [List.getElem?_set_ne fun q => c5 (by rw [← q]; exact hm)]; exact A.c
  · rw [List.getElem?_set_ne fun q => k4 (by rw [← q]; exact hm)]; exact A.h
  · rw [List.getElem?_set_ne fun q => e3 (by rw [← q]; exact hm)]; exact A.ce
  · rw [List.getElem?_set_ne fun q => p2 (by rw [← q]; exact hm)]; exact A.p
  · rw [List.getElem?_set_ne fun q => g1 (by rw [← q]; exact hm)]; exact A.g
  · have hu' : (rpG (Sum.inr s : Key) l' st.sk st.sv)[i']? = some u := hu
    rw [rpG_get] at hu'
    cases e1 : st.sk[i']? with
    | none =>
      rw [e1] at hu'
      cases hu'
    | some k =>
      cases e2 : st.sv[i']? with
      | none =>
        rw [e1, e2] at hu'
        cases hu'
      | some w =>
        rw [e1, e2] at hu'
        cases hu'
        obtain ⟨m, m1, m2⟩ := A.s i' w e2
        by_cases q : k = Sum.inr s
        · have ii : i' = i := by
            exact nodup_ix A.sk (by rw [e1, q]) h1
          subst ii
          rw [if_pos q]
          exact ⟨n, h4, List.getElem?_set_self (get_lt h5)⟩
        · rw [if_neg q]
          refine ⟨m, m1, ?_⟩
          rw [List.getElem?_set_ne]
          · exact m2
          · intro qq
            subst qq
            have : i' = i := nodup_ix ns m1 h4
            subst this
            rw [e1] at h1
            exact q (Option.some.inj h1)
  · show L.ss.length = (rpG (Sum.inr s : Key) l' st.sk st.sv).length
    rw [rp_len A.skl, A.sl, A.skl]
  · show st.sk.length = (rpG (Sum.inr s : Key) l' st.sk st.sv).length
    rw [rp_len A.skl]
end
end Dn

/-! loops over the keys of a live dict: it is locked while it is walked -/
namespace Dn
open PySem PySem.Spec PyProof.Rows L2
section
variable {X : Cx} {e : Expr} {f : DE} {st : Stmt}
end
end Dn

/-! names set by the places of a list -/
namespace Dn
open PySem PySem.Spec PyProof.Rows L2
section
variable {X : Cx} {e : Expr} {es : List Expr}
end
end Dn

/-! sorted texts, comprehensions over a live dict, reversed ranges -/
namespace Dn
open PySem PySem.Spec PyProof.Rows L2
/-! ### texts in order -/
theorem lt_asym : ∀ a b : List Nat, ltCps a b = true → ltCps b a = false
  | [], [], h => by cases h
  | [], _ :: _, _ => rfl
  | _ :: _, [], h => by cases h
  | x :: a, y :: b, h => by
    unfold ltCps at h ⊢
    simp only [Bool.or_eq_true, decide_eq_true_eq, Bool.and_eq_true, beq_iff_eq] at h
    simp only [Bool.or_eq_false_iff, decide_eq_false_iff_not, Bool.and_eq_false_imp, beq_iff_eq]
    rcases h with h | ⟨h1, h2⟩
    · exact ⟨by omega, fun q => by omega⟩
    · exact ⟨by omega, fun _ => lt_asym a b h2⟩
theorem lt_eq : ∀ a b : List Nat, ltCps a b = false → ltCps b a = false → a = b
  | [], [], _, _ => rfl
  | [], _ :: _, h, _ => by cases h
  | _ :: _, [], _, h => by cases h
  | x :: a, y :: b, h, k => by
    unfold ltCps at h k
    simp only [Bool.or_eq_false_iff, decide_eq_false_iff_not, Bool.and_eq_false_imp, beq_iff_eq] at h k
    have e : x = y := by omega
    subst e
    rw [lt_eq a b (h.2 rfl) (k.2 rfl)]
theorem lt_trans : ∀ a b c : List Nat, ltCps b a = false → ltCps c b = false → ltCps c a = false
  | [], _, [], _, _ => rfl
  | [], [], _ :: _, _, _ => rfl
  | [], _ :: _, _ :: _, _, _ => rfl
  | _ :: _, [], _, h, _ => by cases h
  | _ :: _, _ :: _, [], _, h => by cases h
  | x :: a, y :: b, z :: c, h, k => by
    unfold ltCps at h k ⊢
    simp only [Bool.or_eq_false_iff, decide_eq_false_iff_not, Bool.and_eq_false_imp, beq_iff_eq] at h k ⊢
    refine ⟨by omega, fun q => ?_⟩
    exact lt_trans a b c (h.2 (by omega)) (k.2 (by omega))
def leS (a b : Str) : Bool := !ltCps b.cps.toList a.cps.toList
theorem leS_trans {a b c : Str} (h : leS a b = true) (k : leS b c = true) : leS a c = true := by
  unfold leS at *
  simp only [Bool.not_eq_true'] at *
  exact lt_trans _ _ _ h k
theorem leS_total (a b : Str) : (leS a b || leS b a) = true := by
  unfold leS
  cases h : ltCps b.cps.toList a.cps.toList with
  | false => rfl
  | true => rw [lt_asym _ _ h] <;> rfl
theorem str_ext {a b : Str} (h : a.cps.toList = b.cps.toList) : a = b := by
  cases a
  cases b
  congr 1
  exact Array.toList_inj.mp h
theorem leS_anti {a b : Str} (h : leS a b = true) (k : leS b a = true) : a = b := by
  unfold leS at *
  simp only [Bool.not_eq_true'] at *
  exact str_ext (lt_eq _ _ k h)
def ordS (l : List Str) : Prop := l.Pairwise fun a b => leS a b = true
theorem ord_uniq : ∀ {l m : List Str}, ordS l → ordS m → l.Perm m → l = m
  | [], m, _, _, p => (List.Perm.eq_nil p.symm).symm
  | x :: l, [], _, _, p => by cases p.length_eq
  | x :: l, y :: m, h, k, p => by
    have hx := List.pairwise_cons.mp h
    have ky := List.pairwise_cons.mp k
    have e : x = y := by
      have m1 : x ∈ y :: m := p.mem_iff.mp List.mem_cons_self
      have m2 : y ∈ x :: l := p.mem_iff.mpr List.mem_cons_self
      rcases List.mem_cons.mp m1 with e | m1
      · exact e
      · rcases List.mem_cons.mp m2 with e | m2
        · exact e.symm
        · exact leS_anti (hx.1 y m2) (ky.1 x m1)
    subst e
    rw [ord_uniq hx.2 ky.2 (List.Perm.cons_inv p)]
theorem ord_of_sorted : ∀ {l : List Str}, sortedS l = true → ordS l
  | [], _ => List.Pairwise.nil
  | [x], _ => List.pairwise_singleton _ _
  | x :: y :: l, h => by
    have h1 : (leS x y && risingS y l) = true := h
    rw [Bool.and_eq_true] at h1
    have ih : ordS (y :: l) := ord_of_sorted (l := y :: l) h1.2
    refine List.pairwise_cons.mpr ⟨fun z hz => ?_, ih⟩
    rcases List.mem_cons.mp hz with e | hz
    · rw [e]
      exact h1.1
    · exact leS_trans h1.1 ((List.pairwise_cons.mp ih).1 z hz)
def sortS (l : List Str) : List Str := l.mergeSort leS
theorem sortS_perm (l : List Str) : (sortS l).Perm l := List.mergeSort_perm l leS
theorem sortS_ord (l : List Str) : ordS (sortS l) := List.pairwise_mergeSort (le := leS) (fun a b c h k => leS_trans h k) (fun a b => leS_total a b) l
theorem sortS_uniq {l m : List Str} (p : m.Perm l) (h : sortedS m = true) : m = sortS l := ord_uniq (ord_of_sorted h) (sortS_ord l) (p.trans (sortS_perm l).symm)
/-! ### sorted -/
def keysS : List Key → Option (List Str)
  | [] => some []
  | .inr x :: ks => (match keysS ks with
    | some xs => some (x :: xs)
    | none => none)
  | _ => none
theorem keysS_ok : ∀ {ks : List Key} {xs : List Str}, keysS ks = some xs → ks = xs.map Sum.inr
  | [], xs, h => by
    cases (show some ([] : List Str) = some xs from h)
    rfl
  | .inr x :: ks, xs, h => by
    unfold keysS at h
    split at h
    · rename_i ys hy
      cases h
      rw [keysS_ok hy] <;> rfl
    · cases h
  | .inl i :: ks, xs, h => by cases h
def srt (S : Sto) (x : DV) : Option (List Str) := match asL S x with
  | some ds => (match strsD ds with
    | some xs => if xs.length < 64 then some (sortS xs) else none
    | none => none)
  | none => (match asK S x with
    | some (ks, _) => (match keysS ks with
      | some xs => if xs.length < 64 then some (sortS xs) else none
      | none => none)
    | none => none)
def pSorted : PL := fun xs S => match xs with
  | [x] => (match srt S x with
    | some ys => some (.lst .own (ys.map .str), S)
    | none => none)
  | _ => none
abbrev rSortedAll (K : PySem.W.Frag) : List V → Hp → VK → Prop := fun xs H Q => rSortedS K xs H Q ∨ (∃ (a : Addr) (kvs : List (Key × V)) (ks : List Str), xs = [.ref a] ∧ Rd H a (.dK kvs) ∧ kvs.map (·.1) = ks.map Sum.inr ∧ ks.length < 64 ∧
    ∀ ys p, ys.Perm ks → sortedS ys = true → H p = none → Q (.ref p) (upd H p (.lst (ys.map V.str))))
theorem call_sortedAll {X : Cx} (hc : X.calm = true) : CallR X (.builtin "sorted") (rSortedAll X.K) := cr_sortedS.or (call_sortedD hc)
theorem srt_go {K : PySem.W.Frag} {F : Fm} {S : Sto} {H : Hp} {x : DV} {v : V} {ys : List Str} {Q : VK} (hk : F.K = K) (R : Rep F S H) (rv : Rel F x v) (h : srt S x = some ys)
    (hq : ∀ p, H p = none → Q (.ref p) (upd H p (.lst (ys.map V.str)))) : rSortedAll K [v] H Q := by
  unfold srt at h
  split at h
  · rename_i ds hL
    split at h
    · rename_i xs hx
      obtain ⟨h64, e⟩ := of_ite h
      cases e
      obtain ⟨a, us, rfl, hs, rl⟩ := asL_sq R rv hL
      obtain rfl := strsD_ok rl hx
      rw [hk] at hs
      exact .inl ⟨a, xs, rfl, hs, h64, fun ys p hp ho hn => by
        rw [sortS_uniq hp ho]
        exact hq p hn⟩
    · cases h
  · split at h
    · rename_i ks ds hK
      split at h
      · rename_i xs hx
        obtain ⟨h64, e⟩ := of_ite h
        cases e
        obtain ⟨a, us, rfl, hz, hs, rl⟩ := asK_ok R rv hK
        have e := zip_keys (ks := ks) (us := us) (hz.trans rl.length)
        exact .inr ⟨a, _, xs, rfl, hs, by rw [e, keysS_ok hx], h64, fun ys p hp ho hn => by
          rw [sortS_uniq hp ho]
          exact hq p hn⟩
      · cases h
    · cases h
theorem ok_sorted {K : PySem.W.Frag} : OkL K pSorted (rSortedAll K) := fun F S H xs vs d S' Q hk R r hp hq => by
  unfold pSorted at hp
  split at hp
  · rename_i x
    obtain ⟨v, rfl, rv⟩ := one r
    split at hp
    · rename_i ys hy
      cases hp
      exact srt_go hk R rv hy (new_lst R (strs_rel ys) hq)
    · cases hp
  · cases hp
/-! ### an expression that walks a dict: it is locked meanwhile -/
section
variable {X : Cx} {e : Expr} {f g : DE}
end
/-! ### a statement that walks a dict -/
section
variable {X : Cx} {st : Stmt} {f : DE} {s : DS}
end
/-! ### reversed(range(n)), range(i, j, c), text.index(sign) -/
section
variable {X : Cx} {e : Expr} {f g : DE} {fa : DA}
end
end Dn

/-! dicts with keys (number, truth) -/
namespace Dn
open PySem PySem.Spec PyProof.Rows L2

theorem lf_entry (P P' : Program) (w w' : World) (k : Int × Bool) (q : Addr) (v : Value) :
    entryOfKey (tupleKind (leafKind P w)) (lfK k, q, v) = entryOfKey (tupleKind (leafKind P' w')) (lfK k, q, v) := rfl
theorem lfK_inj {j k : Int × Bool} (h : lfK j = lfK k) : j = k := by
  obtain ⟨i, b⟩ := j
  obtain ⟨i', b'⟩ := k
  unfold lfK at h
  simp only [List.cons.injEq, Leaf.num.injEq, and_true] at h
  obtain ⟨rfl, h2⟩ := h
  cases b <;> cases b' <;> simp at h2 ⊢
/-- at a stands a dict with these entries, their keys' tuples are known -/
def LfAt (H : Hp) (a : Addr) (es : List LfE) : Prop :=
  H a = some (.ext (DLf a (es.map LfE.raw))) ∧ ∀ e ∈ es, H e.2.1 = some (.tup [.int e.1.1, .bl e.1.2]) ∧ RelV e.2.2.1 e.2.2.2
def lfFind (es : List LfE) (k : Int × Bool) : Option LfE := es.find? fun e => decide (e.1 = k)
def lfPut (es : List LfE) (k : Int × Bool) (b : Addr) (v : V) (u : Value) : List LfE :=
  if (lfFind es k).isSome = true then es.map fun e => if e.1 = k then (e.1, e.2.1, v, u) else e else es ++ [(k, b, v, u)]
section
variable {P : Program} {w : World} {H : Hp} {h : Heap} {a b : Addr}
theorem lf_is {k : Int × Bool} (ok : HOk P w H h) (e : H b = some (.tup [.int k.1, .bl k.2])) : (tupleKind (leafKind P w)).is h (lfK k) b := by
  obtain ⟨_, its, r, o, h1, h2, n, h3⟩ := (show ObjOk P w H h b (.tup [.int k.1, .bl k.2]) from ok b _ e)
  cases r with
  | cons r1 r =>
    cases r with
    | cons r2 r =>
      cases r
      obtain ⟨t, rfl⟩ := r1
      have e2 := (show _ = Value.bool k.2 from r2)
      subst e2
      refine ⟨o, _, n, h1, h2, h3, ?_⟩
      refine .cons (show Leaf.isOf (.num k.1) (.int k.1 t) = true from decide_eq_true rfl) (.cons ?_ .nil)
      obtain ⟨i, b⟩ := k
      cases b <;> rfl
theorem lf_at {es : List LfE} (ok : HOk P w H h) (L : LfAt H a es) : (a == sysModules) = false ∧ es.length ≤ sizeLine ∧ h.DictOfH (tupleKind (leafKind P w)) a (es.map LfE.raw) := by
  obtain ⟨⟨h1, h2, h3, o, es', ep, h4, h5, h6, h7⟩, _⟩ := (show ObjOk P w H h a (.ext _) from ok a _ L.1)
  rw [List.length_map] at h2
  refine ⟨h1, h2, o, es', ep, h4, h5, h6, h7 P w, fun x hx => ?_, h3⟩
  obtain ⟨e, he, rfl⟩ := List.mem_map.mp hx
  exact lf_is ok (L.2 e he).1
theorem lf_key {es : List LfE} {k : Int × Bool} : atKey (es.map LfE.raw) (lfK k) = (lfFind es k).map fun e => (e.2.1, e.2.2.2) := by
  unfold atKey lfFind
  induction es with
  | nil => rfl
  | cons e es ih =>
    rw [List.map_cons, List.find?_cons, List.find?_cons]
    have q : decide (e.raw.1 = lfK k) = decide (e.1 = k) := by
      by_cases z : e.1 = k
      · rw [decide_eq_true z]
        exact decide_eq_true (congrArg lfK z)
      · rw [decide_eq_false z]
        exact decide_eq_false fun y => z (lfK_inj y)
    rw [q]
    cases decide (e.1 = k)
    · exact ih
    · rfl
theorem lf_stored {es : List LfE} {k : Int × Bool} {v : V} {u : Value} : storedH (es.map LfE.raw) (lfK k) b u = (lfPut es k b v u).map LfE.raw := by
  unfold storedH lfPut
  rw [lf_key, Option.isSome_map]
  by_cases z : (lfFind es k).isSome = true
  · rw [if_pos z, if_pos z, List.map_map, List.map_map]
    refine List.map_congr_left fun e _ => ?_
    show putAt (lfK k) u e.raw = LfE.raw (if e.1 = k then _ else _)
    unfold putAt
    by_cases y : e.1 = k
    · rw [if_pos y, if_pos (show e.raw.1 = lfK k from congrArg lfK y)]
      rfl
    · rw [if_neg y, if_neg (show ¬ e.raw.1 = lfK k from fun q => y (lfK_inj q))]
  · rw [if_neg z, if_neg z, List.map_append]
    rfl
theorem lf_ext {es : List LfE} (hs : (a == sysModules) = false) (hl : es.length ≤ sizeLine) (hd : h.DictOfH (tupleKind (leafKind P w)) a (es.map LfE.raw)) : ObjOk P w H h a (.ext (DLf a (es.map LfE.raw))) := by
  obtain ⟨o, es', ep, h4, h5, h6, h7, _, h3⟩ := hd
  refine ⟨⟨hs, by rw [List.length_map]; exact hl, h3, o, es', ep, h4, h5, h6, fun P' w' => ?_⟩, ⟨o, h4⟩, fun h1 h2 ⟨p1, p2, p3, o2, e2, ep2, q1, q2⟩ k => ⟨p1, p2, p3, o2, e2, ep2, k o2 q1, q2⟩⟩
  rw [h7, List.map_map, List.map_map]
  exact List.map_congr_left fun e _ => lf_entry P P' w w' e.1 e.2.1 e.2.2.2
end
section
variable {X : Cx}
/-- k in d -/
abbrev rLfIn (neg : Bool) : R2 := fun y x H Q => ∃ a es k b, x = .ref a ∧ LfAt H a es ∧ y = .ref b ∧ H b = some (.tup [.int k.1, .bl k.2]) ∧ Q (.bl (if neg then !(lfFind es k).isSome else (lfFind es k).isSome)) H
theorem op_lfNotIn (hu : X.A.units + 1 < cLine) : OpR X (compareOp .NotIn) (rLfIn true) := by
  intro pins s σ H y x u v Q I ry rx h
  obtain ⟨a, es, k, b, rfl, L, rfl, hb, q⟩ := h
  cases rx
  cases ry
  obtain ⟨z1, z2, dd⟩ := lf_at I.hok L
  refine wpAny_notIn_heap (tupleKind_room_in1 hu) (lf_is I.hok hb) z1 dd ?_
  rw [lf_key, Option.isSome_map]
  exact ⟨.bl (!(lfFind es k).isSome), H, I.tok _, rfl, q⟩
/-- d[k] -/
abbrev rLfIx : R2 := fun x y H Q => ∃ a es k b e, x = .ref a ∧ LfAt H a es ∧ y = .ref b ∧ H b = some (.tup [.int k.1, .bl k.2]) ∧ lfFind es k = some e ∧ Q e.2.2.1 H
theorem ix_lf (hu : X.A.units + 1 < cLine) : IxR X rLfIx := by
  intro vl sl pins s σ H x y v u Q I rx ry h hs
  obtain ⟨a, es, k, b, e, rfl, L, rfl, hb, hf, q⟩ := h
  cases rx
  cases ry
  obtain ⟨z1, z2, dd⟩ := lf_at I.hok L
  have hT : s.TypeIs (.ref a) "dict" := by
    obtain ⟨o, _, _, ho, hx, _⟩ := dd
    exact ⟨o, ho, hx.1⟩
  have he : e ∈ es := List.mem_of_find?_eq_some hf
  have got : wpAny (model X.prog X.w) X.A (getItem (.ref a) (.ref b)) (EP X pins σ Q) X.xe s := by
    refine wpAny_getItem_heap (p := (e.2.1, e.2.2.2)) (tupleKind_room_in1 hu) (lf_is I.hok hb) dd (by rw [lf_key, hf]; rfl) ?_
    exact ⟨e.2.2.1, H, I.tok _, (L.2 e he).2, q⟩
  unfold subscriptTail
  refine wpAny_bind ?_
  rw [getitemInPython_of_ne hT.not_modules]
  refine wpAny_bind (wpAny_specialOf hT PySem.F.slot_dict_getitem.lookup ?_)
  have whole : wpAny (model X.prog X.w) X.A (subscripted sl false (.ref a) (.ref b)) (fun r s₃ => wpAny (model X.prog X.w) X.A (letTemporaryGo vl (.ref a) r >>= fun _ => pure r) (EP X pins σ Q) X.xe s₃) X.xe s := by
    rw [hs]
    exact wpAny_operating (wpAny_mono got (fun r s₃ z => wpAny_bind (wpAny_letTemporaryGo (wpAny_pure z))) fun _ _ z => z)
  first
    | exact wpAny_pure (wpAny_bind whole)
    | exact wpAny_bind (wpAny_pure (wpAny_bind whole))
    | exact wpAny_bind whole
/-- d[k] = v -/
def rLfSet : V → V → V → Hp → (Hp → Prop) → Prop := fun o i v H Q => ∃ a es k b, o = .ref a ∧ LfAt H a es ∧ i = .ref b ∧ H b = some (.tup [.int k.1, .bl k.2]) ∧ es.length < sizeLine ∧
  ∀ u, RelV v u → Q (upd H a (.ext (DLf a ((lfPut es k b v u).map LfE.raw))))
theorem lfPut_len {es : List LfE} {k : Int × Bool} {b : Addr} {v : V} {u : Value} : (lfPut es k b v u).length ≤ es.length + 1 := by
  unfold lfPut
  split
  · rw [List.length_map]
    omega
  · rw [List.length_append]
    exact Nat.le_refl _
theorem set_lf (hu : X.A.units + 1 < cLine) : PSet X rLfSet := fun pins s σ H o i v ov iv u Q I ro ri rv h => by
  obtain ⟨a, es, k, b, rfl, L, rfl, hb, hl, q⟩ := h
  cases ro
  cases ri
  obtain ⟨z1, z2, dd⟩ := lf_at I.hok L
  have hz : (es.map LfE.raw).length ≤ sizeLine := by
    rw [List.length_map]
    exact z2
  refine wpAny_setItem_heap (hsz := hz) (tupleKind_room_in1 hu) (lf_is I.hok hb) dd fun h' dd' hs => ?_
  rw [lf_stored (v := v)] at dd'
  have he : ∃ z, h'.get? a = some z := let ⟨z, _, _, y, _⟩ := dd'; ⟨z, y⟩
  have hl2 := lfPut_len (es := es) (k := k) (b := b) (v := v) (u := u)
  exact ⟨_, d_write I (by rw [L.1]; trivial) hs he (lf_ext z1 (by omega) dd'), q u rv⟩
/-- {} -/
def tLfNew : TE := fun _ H Q => ∀ p, H p = none → Q (.ref p) (upd H p (.ext (DLf p [])))
theorem pe_lfNew {pos : Pos} : PE X (.Dict [] [] pos) tLfNew := ⟨fun pins s σ H Q I h => by
  have big : (s.heap.objs.size == sysModules) = false := beq_eq_false_iff_ne.mpr (Ne.symm (Nat.ne_of_lt I.big))
  have new : ObjOk X.prog X.w (upd H s.heap.objs.size (.ext (DLf s.heap.objs.size []))) (s.heap.push { cls := .type "dict", data := .dict #[] }) s.heap.objs.size (.ext (DLf s.heap.objs.size [])) :=
    lf_ext (es := []) big (Nat.zero_le _) ⟨_, #[], 0, Heap.get?_push_size _ rfl, ⟨rfl, rfl, rfl⟩, rfl, rfl, (fun x hx => nomatch hx), List.nodup_nil⟩
  exact wpAny_Dict_empty ⟨.ref s.heap.objs.size, _, I.laid (a := s.heap.objs.size) (t' := s.toks) (fun _ _ z => Heap.get?_push_of_some _ z) (Nat.le_refl _) new, rfl, h _ (I.hok.fresh (Nat.le_refl _))⟩⟩
/-- list(d) -/
def rLfList : List V → Hp → VK → Prop := fun xs H Q => ∃ a es, xs = [.ref a] ∧ LfAt H a es ∧ ∀ l, H l = none → Q (.ref l) (upd H l (.lst (es.map fun e => V.ref e.2.1)))
theorem refs_vals : ∀ es : List LfE, Vals (es.map fun e => V.ref e.2.1) (es.map fun e => Value.ref e.2.1)
  | [] => .nil
  | e :: es => .cons rfl (refs_vals es)
theorem call_lfList (hc : X.calm = true) : CallR X (.type "list") rLfList := by
  intro pins s σ H xs us Q I r h
  obtain ⟨a, es, rfl, L, q⟩ := h
  obtain ⟨u, rfl, rx⟩ := vals1 r
  cases rx
  obtain ⟨z1, z2, o, ds, ep, ho, hx, hd, he, _, _⟩ := lf_at I.hok L
  have hz : ds.size = es.length := by
    have := size_of_entries he
    rw [List.length_map] at this
    exact this
  refine PySem.W.kdl_call (KdlSrc.rawDict (es := ds) (ep := ep) z1) (I.ok.hd hc) ⟨o, ho, hx, hd⟩ (by rw [hz]; exact z2) fun h' tk acc c hk hS hacc => ?_
  have hv : acc.toList = es.map fun e => Value.ref e.2.1 := by
    refine items_out (Pv := fun i v => ∃ hi : i < ds.size, v = ds[i].key) (by rw [List.length_map, ← hz]; exact hacc) fun j v hjv => ?_
    obtain ⟨hi, rfl⟩ := hjv
    have e1 := entry_at he j
    rw [Array.getElem?_eq_getElem hi, List.getElem?_map] at e1
    have hj : j < es.length := by omega
    rw [List.getElem?_map, List.getElem?_eq_getElem hj]
    rw [List.getElem?_eq_getElem hj] at e1
    have e2 := Option.some.inj e1
    show some (Value.ref es[j].2.1) = some ds[j].key
    rw [e2]
    rfl
  have hget : h'.get? s.heap.objs.size = some { cls := .type "list", data := .seq (es.map fun e => Value.ref e.2.1).toArray c } := by
    rw [hS, ← hv]
  exact ⟨.ref s.heap.objs.size, _, I.laid (t' := tk) hk (Nat.le_refl _) (show ObjOk X.prog X.w _ h' _ (.lst _) from ⟨by rw [List.length_map]; exact z2, _, c, refs_vals es, hget⟩), rfl, q _ (I.hok.fresh (Nat.le_refl _))⟩
end

/-! ### over the store -/
def lfOf (S : Sto) : DV → Option (List (Int × Bool) × List DV)
  | .loc n => (match S[n]? with
    | some (.dlf ks ds) => some (ks, ds)
    | _ => none)
  | _ => none
def lfKey : DV → Option (Int × Bool)
  | .tup [.int i, .bl b] => some (i, b)
  | _ => none
section
variable {F : Fm} {S : Sto} {H : Hp}
theorem lfOf_ok {d : DV} {v : V} {ks : List (Int × Bool)} {ds : List DV} (R : Rep F S H) (r : Rel F d v) (h : lfOf S d = some (ks, ds)) :
    ∃ (a : Addr) (es : List LfE), v = .ref a ∧ LfAt H a es ∧ es.map (·.1) = ks ∧ RelL F (ks.map lfD) (es.map fun e => V.ref e.2.1) ∧ RelL F ds (es.map (·.2.2.1)) := by
  unfold lfOf at h
  split at h
  · rename_i n
    split at h
    · rename_i ks' ds' hc
      cases h
      obtain ⟨a, ha, rfl⟩ := r
      obtain ⟨⟨es, e1, e2, r1, r2, t⟩, _⟩ := R.cell n _ a hc ha
      refine ⟨a, es, rfl, ⟨e1, fun e he => ⟨?_, t e he⟩⟩, e2, r1, r2⟩
      have key : ∀ (l : List LfE), RelL F ((l.map (·.1)).map lfD) (l.map fun e => V.ref e.2.1) → ∀ e ∈ l, H e.2.1 = some (.tup [.int e.1.1, .bl e.1.2]) := by
        intro l
        induction l with
        | nil => intro _ e he; cases he
        | cons x l ih =>
          intro rl e he
          obtain ⟨v0, vr, e0, q1, q2⟩ := rl
          rw [List.map_cons] at e0
          cases e0
          rcases List.mem_cons.mp he with z | z
          · subst z
            obtain ⟨b, xs, eb, eg, rb⟩ := q1
            cases eb
            obtain ⟨u1, us, rfl, t1, t2⟩ := rb
            obtain ⟨u2, us2, rfl, t3, t4⟩ := t2
            cases (show u1 = .int e.1.1 from t1)
            cases (show u2 = .bl e.1.2 from t3)
            cases (show us2 = [] from t4)
            exact R.g _ _ eg
          · exact ih q2 e z
      rw [← e2] at r1
      exact key es r1 e he
    · cases h
  · cases h
theorem lfKey_ok {d : DV} {v : V} {k : Int × Bool} (R : Rep F S H) (r : Rel F d v) (h : lfKey d = some k) : d = lfD k ∧ ∃ b, v = .ref b ∧ H b = some (.tup [.int k.1, .bl k.2]) := by
  unfold lfKey at h
  split at h
  · cases h
    refine ⟨rfl, ?_⟩
    obtain ⟨b, xs, rfl, eg, rb⟩ := r
    obtain ⟨u1, us, rfl, t1, t2⟩ := rb
    obtain ⟨u2, us2, rfl, t3, t4⟩ := t2
    cases (show u1 = .int _ from t1)
    cases (show u2 = .bl _ from t3)
    cases (show us2 = [] from t4)
    exact ⟨b, rfl, R.g _ _ eg⟩
  · cases h
theorem lf_find {k : Int × Bool} : ∀ {es : List LfE} {ds : List DV}, RelL F ds (es.map (·.2.2.1)) →
    (lfFind es k).isSome = hasK (es.map (·.1)) k ∧ ∀ d, lkD (es.map (·.1)) ds k = some d → ∃ e, lfFind es k = some e ∧ Rel F d e.2.2.1
  | [], ds, r => ⟨rfl, fun d h => by unfold lkD at h; cases h⟩
  | e :: es, [], r => by
    have e0 : (e :: es).map (·.2.2.1) = [] := r
    cases e0
  | e :: es, d0 :: ds, r => by
    obtain ⟨v0, vr, e0, q1, q2⟩ := r
    rw [List.map_cons] at e0
    cases e0
    obtain ⟨i1, i2⟩ := lf_find (k := k) q2
    unfold lfFind hasK at i1 ⊢
    rw [List.find?_cons, List.map_cons, List.any_cons]
    by_cases z : e.1 = k
    · rw [decide_eq_true z]
      refine ⟨rfl, fun d h => ?_⟩
      unfold lkD at h
      rw [if_pos z] at h
      cases h
      exact ⟨e, rfl, q1⟩
    · rw [decide_eq_false z, Bool.false_or]
      refine ⟨i1, fun d h => ?_⟩
      unfold lkD at h
      rw [if_neg z] at h
      exact i2 d h
end
def pLfIn (neg : Bool) : P2 := fun x y S => match lfOf S y with
  | some (ks, _) => (match lfKey x with
    | some k => some (.bl (if neg then !hasK ks k else hasK ks k), S)
    | none => none)
  | none => none
def pLfIx : P2 := fun x y S => match lfOf S x with
  | some (ks, ds) => (match lfKey y with
    | some k => (match lkD ks ds k with
      | some d => some (d, S)
      | none => none)
    | none => none)
  | none => none
theorem ok_lfIn {K : PySem.W.Frag} {neg : Bool} : Ok2 K (pLfIn neg) (rLfIn neg) := fun F S H x y vx vy d S' Q hk R rx ry hp hq => by
  unfold pLfIn at hp
  split at hp
  · rename_i ks ds hO
    split at hp
    · rename_i k hK
      cases hp
      obtain ⟨a, es, rfl, L, e2, _, r2⟩ := lfOf_ok R ry hO
      obtain ⟨_, b, rfl, hb⟩ := lfKey_ok R rx hK
      refine ⟨a, es, k, b, rfl, L, rfl, hb, ?_⟩
      rw [(lf_find (k := k) r2).1, e2]
      exact hq F H _ (.refl F) R rfl
    · cases hp
  · cases hp
theorem ok_lfIx {K : PySem.W.Frag} : Ok2 K pLfIx rLfIx := fun F S H x y vx vy d S' Q hk R rx ry hp hq => by
  unfold pLfIx at hp
  split at hp
  · rename_i ks ds hO
    split at hp
    · rename_i k hK
      split at hp
      · rename_i d0 hd
        cases hp
        obtain ⟨a, es, rfl, L, e2, _, r2⟩ := lfOf_ok R rx hO
        obtain ⟨_, b, rfl, hb⟩ := lfKey_ok R ry hK
        subst e2
        obtain ⟨e, he, rd⟩ := (lf_find (k := k) r2).2 _ hd
        exact ⟨a, es, k, b, e, rfl, L, rfl, hb, he, hq F H _ (.refl F) R rd⟩
      · cases hp
    · cases hp
  · cases hp
def lfSetI (x i y : DV) (S : Sto) : Option Sto := match x with
  | .loc n => (match S[n]? with
    | some (.dlf ks ds) => (match lfKey i with
      | some k => if ks.length < sizeLine then some (S.set n (.dlf (putKs ks k) (putVs ks ds k y))) else none
      | none => none)
    | _ => none)
  | _ => none
def dLfSub (v o i : DE) : DS := fun ρ S => match v ρ S with
  | some (y, S1) => (match o ρ S1 with
    | some (x, S2) => (match i ρ S2 with
      | some (k, S3) => (match lfSetI x k y S3 with
        | some S4 => some (.nx ρ S4)
        | none => none)
      | none => none)
    | none => none)
  | none => none
theorem lf_putK {es : List LfE} {k : Int × Bool} {b : Addr} {v : V} {u : Value} : (lfPut es k b v u).map (·.1) = putKs (es.map (·.1)) k := by
  have hh : hasK (es.map (·.1)) k = (lfFind es k).isSome := by
    unfold hasK lfFind
    rw [List.any_map, Bool.eq_iff_iff, List.find?_isSome]
    simp
  unfold lfPut putKs
  rw [hh]
  by_cases z : (lfFind es k).isSome = true
  · rw [if_pos z, if_pos z, List.map_map]
    refine List.map_congr_left fun e _ => ?_
    show (if e.1 = k then _ else e).1 = e.1
    split <;> rfl
  · rw [if_neg z, if_neg z, List.map_append]
    rfl
theorem lf_putR {F : Fm} {k : Int × Bool} {b : Addr} {v : V} {u : Value} {y : DV} (ry : Rel F y v) (rk : Rel F (lfD k) (.ref b)) {es : List LfE} {ds : List DV} (r1 : RelL F ((es.map (·.1)).map lfD) (es.map fun e => V.ref e.2.1)) (r2 : RelL F ds (es.map (·.2.2.1))) :
    RelL F (((lfPut es k b v u).map (·.1)).map lfD) ((lfPut es k b v u).map fun e => V.ref e.2.1) ∧ RelL F (putVs (es.map (·.1)) ds k y) ((lfPut es k b v u).map (·.2.2.1)) := by
  have hh : hasK (es.map (·.1)) k = (lfFind es k).isSome := by
    unfold hasK lfFind
    rw [List.any_map, Bool.eq_iff_iff, List.find?_isSome]
    simp
  unfold lfPut putVs
  rw [hh]
  by_cases z : (lfFind es k).isSome = true
  · rw [if_pos z, if_pos z]
    constructor
    · have e1 : (es.map fun e => if e.1 = k then (e.1, e.2.1, v, u) else e).map (·.1) = es.map (·.1) := by
        rw [List.map_map]
        refine List.map_congr_left fun e _ => ?_
        show (if e.1 = k then _ else e).1 = e.1
        split <;> rfl
      have e2 : ((es.map fun e => if e.1 = k then (e.1, e.2.1, v, u) else e).map fun e => V.ref e.2.1) = es.map fun e => V.ref e.2.1 := by
        rw [List.map_map]
        refine List.map_congr_left fun e _ => ?_
        show V.ref (if e.1 = k then _ else e).2.1 = V.ref e.2.1
        split <;> rfl
      rw [e1, e2]
      exact r1
    · have e3 : (es.map fun e => if e.1 = k then (e.1, e.2.1, v, u) else e).map (·.2.2.1) = rpG k v (es.map (·.1)) (es.map (·.2.2.1)) := by
        clear r1 r2 hh z
        induction es with
        | nil => rfl
        | cons e es ih =>
          rw [List.map_cons, List.map_cons, List.map_cons, List.map_cons, ih]
          show _ = (if e.1 = k then v else e.2.2.1) :: rpG k v (es.map (·.1)) (es.map (·.2.2.1))
          by_cases y : e.1 = k
          · rw [if_pos y, if_pos y]
          · rw [if_neg y, if_neg y]
      rw [e3]
      exact rp_rel ry r2
  · rw [if_neg z, if_neg z]
    refine ⟨?_, ?_⟩
    · rw [List.map_append, List.map_append, List.map_append]
      exact r1.append (rel1 rk)
    · rw [List.map_append]
      exact r2.append (rel1 ry)
section
variable {X : Cx} {e a b : Expr} {f g : DE} {pos : Pos} {st : Stmt}
theorem sd_lfSub {v : DE} (h : PS X st (tAsg (rdE X.K v) (L2.gSub (rdE X.K f) (rdE X.K g) rLfSet))) : SD X st (dLfSub v f g) := .of h fun F S H ρ σ o D hk R rr hf hq => by
  unfold dLfSub at hf
  split at hf
  · rename_i y S1 h1
    split at hf
    · rename_i x S2 h2
      split at hf
      · rename_i k S3 h3
        split at hf
        · rename_i S4 h4
          cases hf
          refine rdE.go hk R rr h1 fun F1 H1 vy le1 hk1 R1 r1 ry => rdE.go hk1 R1 r1 h2 fun F2 H2 vx le2 hk2 R2 r2 rx => rdE.go hk2 R2 r2 h3 fun F3 H3 vk le3 hk3 R3 r3 rk => ?_
          unfold lfSetI at h4
          split at h4
          · rename_i n
            split at h4
            · rename_i ks ds hc
              split at h4
              · rename_i j hj
                obtain ⟨hl, h4⟩ := of_ite h4
                cases h4
                have hO : lfOf S3 (.loc n) = some (ks, ds) := by
                  unfold lfOf
                  simp only [hc]
                have rx3 := rx.le le3
                obtain ⟨p, es, rfl, L, e2, q1, q2⟩ := lfOf_ok R3 rx3 hO
                obtain ⟨ek, c, rfl, hcK⟩ := lfKey_ok R3 rk hj
                obtain ⟨p', hp', ep⟩ := rx3
                cases ep
                subst e2
                rw [List.length_map] at hl
                refine ⟨p, es, j, c, rfl, L, rfl, hcK, hl, fun u ru => ?_⟩
                rw [ek] at rk
                have ry3 := ry.le (le2.trans le3)
                obtain ⟨w1, w2⟩ := lf_putR (u := u) ry3 rk q1 q2
                refine hq F3 _ ((le1.trans le2).trans le3) ?_ σ r3
                refine R3.write hc rfl hp' (fun _ q => nomatch q) rfl ⟨lfPut es j c _ u, upd_same, lf_putK, by rw [← lf_putK (b := c) (v := vy) (u := u)]; exact w1, w2, fun e0 he0 => ?_⟩
                unfold lfPut at he0
                split at he0
                · obtain ⟨e1, he1, rfl⟩ := List.mem_map.mp he0
                  by_cases z : e1.1 = j
                  · rw [if_pos z]
                    exact ru
                  · rw [if_neg z]
                    exact (L.2 e1 he1).2
                · rcases List.mem_append.mp he0 with z | z
                  · exact (L.2 e0 z).2
                  · rw [List.mem_singleton.mp z]
                    exact ru
              · cases h4
            · cases h4
          · cases h4
        · cases hf
      · cases hf
    · cases hf
  · cases hf
theorem ed_lfIx {k : Nat} (hr : Room k X.A) (ha : ED X a f) (hb : ED X b g) (hs : PlainIx b) : ED X (.Subscript a b pos) (dBin pLfIx f g) := .of (pe_ix (ix_lf (hu1 hr)) ha.pe hb.pe hs) fun F S H ρ σ d S' Q hk R rr hf hq => by
  unfold dBin at hf
  split at hf
  · rename_i x S1 h1
    split at hf
    · rename_i y S2 h2
      exact rdE.go hk R rr h1 fun F1 H1 vx le1 hk1 R1 r1 rx => rdE.go hk1 R1 r1 h2 fun F2 H2 vy le2 hk2 R2 r2 ry =>
        ok_lfIx F2 S2 H2 x y vx vy d S' Q hk2 R2 (rx.le le2) ry hf fun F3 H3 v le R' rv => hq F3 H3 v ((le1.trans le2).trans le) R' rv
    · cases hf
  · cases hf
def dLfNew : DE := fun _ S => some (.loc S.length, S ++ [.dlf [] []])
theorem ed_lfNew : ED X (.Dict [] [] pos) dLfNew :=
  .of pe_lfNew fun F S H ρ σ d S' Q hk R rr hf hq p hp => by
    cases (show some (DV.loc S.length, S ++ [Cell.dlf [] []]) = some (d, S') from hf)
    have R' := R.alloc (o := .ext (DLf p [])) (c := .dlf [] []) hp (fun _ q => nomatch q) ⟨[], upd_same, rfl, rfl, rfl, fun e he => nomatch he⟩
    exact hq _ _ _ (F.cell_le p) R' ⟨p, by rw [← R.len]; exact get_len _ _, rfl⟩
/-- list(d), a new list that will be changed -/
def pLfList : PL := fun xs S => match xs with
  | [x] => (match lfOf S x with
    | some (ks, _) => some (.loc S.length, S ++ [.lst (ks.map lfD)])
    | none => none)
  | _ => none
theorem ok_lfList {K : PySem.W.Frag} : OkL K pLfList rLfList := fun F S H xs vs d S' Q hk R r hp hq => by
  unfold pLfList at hp
  split at hp
  · rename_i x
    obtain ⟨v, rfl, rv⟩ := one r
    split at hp
    · rename_i ks ds hO
      cases hp
      obtain ⟨a, es, rfl, L, e2, q1, q2⟩ := lfOf_ok R rv hO
      exact ⟨a, es, rfl, L, new_lstM R q1 hq⟩
    · cases hp
  · cases hp
end
end Dn

/-! tables of the module with text keys; {(i, b): v} -/
namespace Dn
open PySem PySem.Spec PyProof.Rows L2

/-! ### tables -/
def tabF (kvs : List (Str × He.Dv)) (z : Str) : Option He.Dv := (kvs.find? fun q => q.1 == z).map (·.2)
/-- the table at d: what stands at each text -/
structure TabC (K : PySem.W.Frag) (w : World) (mg : Str → Option Value) (x : Str) (kvs : List (Str × He.Dv)) : Prop where
  mg_ : mg x = some (.ref (He.ga K x))
  kd : ∃ es n, KDict K w (He.ga K x) es n
  yes : ∀ z v, tabF kvs z = some v → ∃ u, PySem.W.nsIn K (He.ga K x) z = some (some u) ∧ RelV (v.v K) u
  no : ∀ z, tabF kvs z = none → PySem.W.nsIn K (He.ga K x) z = some none
  ok : (kvs.map (·.2)).all dvOk = true
theorem dicW_at {K : PySem.W.Frag} {w : World} {a : Addr} {ks : List Str} (h : He.dicW K a = some (He.keysIn w.params ks)) : ∃ es n, KDict K w a es n ∧ es.toList.map He.keyOf = He.keysIn w.params ks := by
  obtain ⟨es, n, D⟩ := He.dicW_ok h
  refine ⟨es, n, D, ?_⟩
  unfold He.dicW at h
  rw [D.at_] at h
  simp only [D.low] at h
  exact Option.some.inj h
theorem keys_no {P : Params} {z : Str} : ∀ {l : List DictEntry} {ks : List Str}, l.map He.keyOf = He.keysIn P ks → z ∉ ks → l.find? (·.key.isStr z) = none ∧ l.any (·.refKey) = false
  | [], ks, _, _ => ⟨rfl, rfl⟩
  | e :: l, [], h, _ => by cases h
  | e :: l, k :: ks, h, hz => by
    have h1 : He.keyOf e :: l.map He.keyOf = some (k, PyData.keyHash P k) :: He.keysIn P ks := h
    injection h1 with h2 h3
    obtain ⟨i1, i2⟩ := keys_no h3 fun q => hz (List.mem_cons_of_mem _ q)
    have hk : ∃ t, e.key = .str k t := by
      unfold He.keyOf at h2
      split at h2
      · rename_i x t q
        have h4 := Option.some.inj h2
        obtain ⟨h5, _⟩ := Prod.mk.inj h4
        exact ⟨t, by rw [q, h5]⟩
      · cases h2
    obtain ⟨t, hk⟩ := hk
    have ne : (k == z) = false := beq_eq_false_iff_ne.mpr fun q => hz (by rw [← q]; exact List.mem_cons_self)
    constructor
    · rw [List.find?_cons]
      have : e.key.isStr z = false := by
        rw [hk]
        exact ne
      rw [this]
      exact i1
    · rw [List.any_cons, i2]
      have : e.refKey = false := by
        unfold DictEntry.refKey
        rw [hk]
      rw [this] <;> rfl
theorem tab_of {K : PySem.W.Frag} {w : World} {mg : Str → Option Value} {x : Str} {kvs : List (Str × He.Dv)} (hm : mg x = some (.ref (He.ga K x))) (h : He.dicW K (He.ga K x) = some (He.keysIn w.params (kvs.map (·.1)))) (hv : He.valsB K (He.ga K x) kvs = true)
    (ho : (kvs.map (·.2)).all dvOk = true := by decide) : TabC K w mg x kvs := by
  obtain ⟨es, n, D, hk⟩ := dicW_at h
  refine ⟨hm, ⟨es, n, D⟩, fun z v hz => ?_, fun z hz => ?_, ho⟩
  · unfold tabF at hz
    obtain ⟨q, hq, rfl⟩ := Option.map_eq_some_iff.mp hz
    obtain ⟨u, h1, h2⟩ := He.valsB_ok hv (List.mem_of_find?_eq_some hq)
    have e : q.1 = z := by
      have := List.find?_some hq
      simpa using this
    rw [e] at h1
    exact ⟨u, h1, h2⟩
  · unfold tabF at hz
    have hz' : z ∉ kvs.map (·.1) := fun q => by
      obtain ⟨p, hp, rfl⟩ := List.mem_map.mp q
      have h1 : kvs.find? (fun q => q.1 == p.1) = none := by
        cases h0 : kvs.find? (fun q => q.1 == p.1) with
        | none => rfl
        | some y => rw [h0] at hz; cases hz
      have := List.find?_eq_none.mp h1 p hp
      simp at this
    obtain ⟨i1, i2⟩ := keys_no hk hz'
    unfold PySem.W.nsIn
    rw [D.at_]
    simp only [i1, i2]
    rfl
def dTabIn (neg : Bool) (kvs : List (Str × He.Dv)) (f : DE) : DE := fun ρ S => match f ρ S with
  | some (.str z, S1) => some (.bl (if neg then !(tabF kvs z).isSome else (tabF kvs z).isSome), S1)
  | _ => none
def dTabIx (kvs : List (Str × He.Dv)) (f : DE) : DE := fun ρ S => match f ρ S with
  | some (.str z, S1) => (match tabF kvs z with
    | some v => some (dvD v, S1)
    | none => none)
  | _ => none
theorem ix_kd {X : Cx} {d : Addr} {es : Array DictEntry} {n : Nat} (D : KDict X.K X.w d es n) : IxR X (fun x y H Q => ∃ (z : Str) (u0 : Value) (v0 : V), x = .ref d ∧ y = .str z ∧ PySem.W.nsIn X.K d z = some (some u0) ∧ RelV v0 u0 ∧ Q v0 H) := by
  intro vl sl pins s σ H x y v u Q I rx ry h hs
  have got := op_item_kd D pins s σ H x y v u Q I rx ry h
  obtain ⟨z, u0, v0, rfl, rfl, _⟩ := h
  cases rx
  have hT := kd_type D I
  unfold subscriptTail
  refine wpAny_bind ?_
  rw [getitemInPython_of_ne hT.not_modules]
  refine wpAny_bind (wpAny_specialOf hT PySem.F.slot_dict_getitem.lookup ?_)
  have whole : wpAny (model X.prog X.w) X.A (subscripted sl false (.ref d) u) (fun r s₃ => wpAny (model X.prog X.w) X.A (letTemporaryGo vl (.ref d) r >>= fun _ => pure r) (EP X pins σ Q) X.xe s₃) X.xe s := by
    rw [hs]
    exact wpAny_operating (wpAny_mono got (fun r s₃ z => wpAny_bind (wpAny_letTemporaryGo (wpAny_pure z))) fun _ _ z => z)
  first
    | exact wpAny_pure (wpAny_bind whole)
    | exact wpAny_bind (wpAny_pure (wpAny_bind whole))
    | exact wpAny_bind whole
theorem dvD_v {K : PySem.W.Frag} {F : Fm} {v : He.Dv} (h : dvOk v = true) : Rel F (dvD v) (v.v K) := by
  cases v <;> first | exact rfl | cases h
section
variable {X : Cx} {e a b : Expr} {f g : DE} {pos p1 : Pos} {x : Str} {kvs : List (Str × He.Dv)}
theorem tab_isSome {K : PySem.W.Frag} {w : World} {mg : Str → Option Value} (T : TabC K w mg x kvs) (z : Str) : ∃ r, PySem.W.nsIn K (He.ga K x) z = some r ∧ r.isSome = (tabF kvs z).isSome := by
  cases h : tabF kvs z with
  | none => exact ⟨none, T.no z h, rfl⟩
  | some v =>
    obtain ⟨u, h1, _⟩ := T.yes z v h
    exact ⟨some u, h1, rfl⟩
theorem tabIn_go {neg : Bool} {K : PySem.W.Frag} {w : World} {mg : Str → Option Value} (T : TabC K w mg x kvs) {F : Fm} {S : Sto} {H : Hp} {ρ : Ev} {σ : L2.St} {d : DV} {S' : Sto} {Q : V → Hp → Prop} (hk : F.K = K) (R : Rep F S H) (rr : RelE F ρ σ) (hf : dTabIn neg kvs f ρ S = some (d, S')) (hq : PostE F S' d Q) :
    rdE K f σ H fun vx H1 => ∃ (z : Str) (r : Option Value), vx = .str z ∧ (V.ref (He.ga K x)) = .ref (He.ga K x) ∧ PySem.W.nsIn K (He.ga K x) z = some r ∧ Q (.bl (if neg then !r.isSome else r.isSome)) H1 := by
  unfold dTabIn at hf
  split at hf
  · rename_i z S1 h1
    cases hf
    refine rdE.go hk R rr h1 fun F1 H1 vx le1 hk1 R1 r1 rx => ?_
    obtain ⟨r, hr1, hr2⟩ := tab_isSome T z
    refine ⟨z, r, rx, rfl, hr1, ?_⟩
    rw [hr2]
    exact hq F1 H1 _ le1 R1 rfl
  · cases hf
theorem td_tabIn (T : TabC X.K X.w X.mg x kvs) (hg : Gl X x) (ha : ED X a f) (hm : behindInMarks .In (.Name x p1) = false) (hd : (x == ("__debug__" : Str)) = false := by decide) : TD X (.Compare a [.In] [.Name x p1] pos) (dTabIn false kvs f) := by
  obtain ⟨es, n, D⟩ := T.kd
  exact .of (pt_cmpR (op_in_kd D) ha.pe (pe_glob (v := .ref (He.ga X.K x)) hg T.mg_ rfl hd) hm) fun F S H ρ σ d S' Q hk R rr hf hq => tabIn_go (Q := fun v H' => ∃ k, v = .bl k ∧ Q k H') T hk R rr hf fun F' H' v le R' rv => ⟨d, rv, hq F' H' le R'⟩
theorem ed_tabIx (T : TabC X.K X.w X.mg x kvs) (hg : Gl X x) (hb : ED X b f) (hs : PlainIx b) (hd : (x == ("__debug__" : Str)) = false := by decide) : ED X (.Subscript (.Name x p1) b pos) (dTabIx kvs f) := by
  obtain ⟨es, n, D⟩ := T.kd
  refine .of (pe_ix (ix_kd D) (pe_glob (v := .ref (He.ga X.K x)) hg T.mg_ rfl hd) hb.pe hs) fun F S H ρ σ d S' Q hk R rr hf hq => ?_
  unfold dTabIx at hf
  split at hf
  · rename_i z S1 h1
    split at hf
    · rename_i v hv
      cases hf
      refine rdE.go hk R rr h1 fun F1 H1 vx le1 hk1 R1 r1 rx => ?_
      obtain ⟨u, q1, q2⟩ := T.yes z v hv
      refine ⟨z, u, v.v X.K, rfl, rx, q1, q2, hq F1 H1 _ le1 R1 (dvD_v ?_)⟩
      unfold tabF at hv
      obtain ⟨q, hq', rfl⟩ := Option.map_eq_some_iff.mp hv
      exact List.all_eq_true.mp T.ok _ (List.mem_map.mpr ⟨q, List.mem_of_find?_eq_some hq', rfl⟩)
    · cases hf
  · cases hf
end
/-! ### the head, with tables -/
abbrev AlY : Type := He.AlT × Bool
def obsY (n : Nat) (fa : List He.Fa) (fn : List He.DefD) (ts : List He.Tab) (ex : PySem.W.Frag → Bool) (g : Addr → Option Obj) : AlY := (He.obsT fa fn ts (He.frG g (He.asD g n)), ex (He.frG g (He.asD g n)))
def hookY (n : Nat) (fa : List He.Fa) (fn : List He.DefD) (ts : List He.Tab) (ex : PySem.W.Frag → Bool) : PySem.W.Hook where
  α := AlY
  obs := fun s => obsY n fa fn ts ex s.heap.get?
  val := fun w => (He.valT fn ts w, true)
  says := fun w h => ∃ K : PySem.W.Frag, K.In h ∧ He.SaysT fa fn ts w K ∧ ex K = true
  of := fun _ _ e => ⟨_, He.frG_in, congrArg Prod.fst e, congrArg Prod.snd e⟩
  keeps := fun _ _ _ ⟨K, hK, c⟩ k => ⟨K, PySem.W.Frag.In.keeps hK k, c⟩
theorem obsY_eq {n : Nat} {fa : List He.Fa} {fn : List He.DefD} {ts : List He.Tab} {ex : PySem.W.Frag → Bool} {g : Addr → Option Obj} {s : Shared} (h : ∀ a, g a = s.heap.get? a) : obsY n fa fn ts ex g = (hookY n fa fn ts ex).obs s := by
  have e : g = s.heap.get? := funext h
  rw [e] <;> rfl
structure FactsT (fa : List He.Fa) (fn : List He.DefD) (ts : List He.Tab) (ex : PySem.W.Frag → Bool) (w : World) (K : PySem.W.Frag) (mg : Str → Option Value) : Prop extends Facts fa fn ex K mg where
  t : He.SaysT fa fn ts w K
theorem says_tab {fa : List He.Fa} {fn : List He.DefD} {ts : List He.Tab} {w : World} {K : PySem.W.Frag} (c : He.SaysT fa fn ts w K) (i : Nat) {t : He.Tab} (h : ts[i]? = some t := by rfl) : He.dicW K (t.1 K) = some (He.keysIn w.params t.2) := by
  have e : ts.map (fun t => He.dicW K (t.1 K)) = ts.map fun t => some (He.keysIn w.params t.2) := congrArg (fun z : He.AlT => z.2) c
  have e2 : (ts.map fun t => He.dicW K (t.1 K))[i]? = (ts.map fun t => some (He.keysIn w.params t.2))[i]? := by rw [e]
  rw [List.getElem?_map, List.getElem?_map, h] at e2
  exact Option.some.inj e2
/-! ### {(i, b): v} -/
section
variable {X : Cx} {k v : Expr} {tk tv : TE} {pos : Pos} {f g : DE}
end
end Dn

/-! sorted(set(xs)), len(set(xs)) -/
namespace Dn
open PySem PySem.Spec PyProof.Rows L2

/-! ### a set of numbers and texts whose table can be walked -/
def fso (w : World) : Obj := { cls := .type "set", dict := none, data := .set #[] 0 (.fresh 0 0 (!w.params.followText "set-order")) }
structure KSe (P : Program) (w : World) (L : List (Key × Value)) (es : Array (Int × Value)) (t : SetTable) : Prop where
  perm : es.toList.Perm (L.map fun p => ((mixKind P w).hash p.1, p.2))
  is : ∀ p ∈ L, (mixKind P w).is p.1 p.2 = true ∧ p.2.scannable = true
  nd : (L.map (·.1)).Nodup
  few : L.length < scanBound
  fits : t.fits es.size = true
  ris : Ris t.place.toList
  led : w.params.followText "set-order" = true ∨ t.led = true
def KS (P : Program) (w : World) (h : Heap) (a : Addr) (L : List (Key × Value)) : Prop := ∃ o es ep t, h.get? a = some o ∧ o.ExactSet ∧ o.data = .set es ep t ∧ KSe P w L es t
section
variable {P : Program} {w : World} {L : List (Key × Value)} {es : Array (Int × Value)} {t : SetTable}
theorem KSe.size (K : KSe P w L es t) : es.size = L.length := by
  rw [← Array.length_toList, K.perm.length_eq, List.length_map]
theorem KSe.elems (K : KSe P w L es t) : ElemsOf (mixKind P w) es.toList := fun e he => by
  obtain ⟨p, hp, rfl⟩ := List.mem_map.mp (K.perm.mem_iff.mp he)
  obtain ⟨i1, i2⟩ := K.is p hp
  exact ⟨⟨p.1, i1, rfl⟩, i2⟩
theorem KS.at {h h' : Heap} {a : Addr} (R : KS P w h a L) (k : ∀ o, h.get? a = some o → h'.get? a = some o) : KS P w h' a L := by
  obtain ⟨o, es, ep, t, ho, r⟩ := R
  exact ⟨o, es, ep, t, k o ho, r⟩
theorem ks_new {h : Heap} {a : Addr} (ho : h.get? a = some (fso w)) : KS P w h a [] :=
  ⟨_, #[], 0, .fresh 0 0 (!w.params.followText "set-order"), ho, ⟨rfl, rfl, rfl⟩, rfl, ⟨List.Perm.refl _, (fun p hp => nomatch hp), List.nodup_nil, (by decide), (by rfl), List.Pairwise.nil, by
    show _ ∨ (!w.params.followText "set-order") = true
    cases w.params.followText "set-order"
    · exact .inr rfl
    · exact .inl rfl⟩⟩
end
section
variable {P : Program} {w : World} {A : Around} {E : Value → Shared → Prop} {s : Shared} {a : Addr}
theorem ks_tail {L : List (Key × Value)} {gv : Bool → Sem Unit} (hg : ∀ (b : Bool) (s₁ : Shared) (Q' : Unit → Shared → Prop), Q' () s₁ → wpAny (model P w) A (gv b) Q' E s₁)
    {o : Obj} {es es1 : Array (Int × Value)} {ep : Nat} {t t2 : SetTable} (at0 : s.heap.get? a = some o) (ex0 : o.ExactSet) (dat0 : o.data = .set es ep t) (K : KSe P w L es1 t2) {dm : Bool} {R : Option Bool → Shared → Prop}
    (done : ∀ h', Heap.SameBut a s.heap h' → KS P w h' a L → R (some true) { s with heap := h' }) :
    wpAny (model P w) A (do
        storeSet a es1 t2
        if (!dm && t2.tooFull) = true then do
            gv (relayAll t2 es1 (SetTable.grown es1.size)).2.2
            storeSet a (relayAll t2 es1 (SetTable.grown es1.size)).1 (relayAll t2 es1 (SetTable.grown es1.size)).2.1
            pure (some true)
          else pure (some true)) R E s := by
  have fw : es1.size < scanBound := by rw [K.size]; exact K.few
  refine wpAny_bind (wpAny_storeSet_of at0 dat0 ?_ (fits_of_scanBound fw))
  have at1 := L2.store_at (es' := es1) (t' := t2) at0 dat0
  have same1 := Heap.SameBut.update s.heap a (Obj.putSet es1 t2)
  by_cases c : (!dm && t2.tooFull) = true
  · rw [if_pos c]
    have r1 := relayAll_perm t2 es1 (SetTable.grown es1.size)
    have r2 := relayAll_fits t2 es1 (SetTable.grown es1.size)
    have r3 := relayAll_ris t2 es1 (SetTable.grown es1.size)
    have r4 := relayAll_led t2 es1 (SetTable.grown es1.size)
    revert r1 r2 r3 r4
    generalize relayAll t2 es1 (SetTable.grown es1.size) = Z
    obtain ⟨e9, t9, g9⟩ := Z
    intro r1 r2 r3 r4
    dsimp only at r1 r2 r3 r4 ⊢
    have K9 : KSe P w L e9 t9 := ⟨r1.trans K.perm, K.is, K.nd, K.few, r2, r3, K.led.imp id fun z => by rw [r4]; exact z⟩
    refine wpAny_bind (hg _ _ _ (wpAny_bind (wpAny_storeSet_of at1 rfl ?_ (fits_of_scanBound (by rw [K9.size]; exact K9.few)))))
    exact wpAny_pure (done _ (same1.trans (Heap.SameBut.update _ a _)) ⟨_, e9, _, t9, L2.store_at (es' := e9) (t' := t9) at1 rfl, ex0, rfl, K9⟩)
  · rw [if_neg c]
    exact wpAny_pure (done _ same1 ⟨_, es1, _, t2, at1, ex0, rfl, K⟩)
theorem ks_add {L : List (Key × Value)} {k : Key} {v : Value} {Q : Bool → Shared → Prop} (hk : (mixKind P w).is k v = true) (hsc : v.scannable = true) (R : KS P w s.heap a L) (room : L.length + 1 < scanBound)
    (done : ∀ h' b L', Heap.SameBut a s.heap h' → KS P w h' a L' → (∀ j, j ∈ L'.map (·.1) ↔ j = k ∨ j ∈ L.map (·.1)) → L'.length ≤ L.length + 1 → Q b { s with heap := h' }) :
    wpAny (model P w) A (setAddHashed a v ((mixKind P w).hash k)) Q E s := by
  obtain ⟨o, es, ep, t, at0, ex0, dat0, K⟩ := R
  have el := K.elems
  unfold setAddHashed setAddHashedIn
  refine wpAny_holding (wpAny_bind (wpAny_setState_of at0 dat0 K.fits ?_))
  dsimp only
  rw [byScan_of hsc (by rw [K.size]; exact K.few) el]
  simp only [↓reduceIte]
  unfold setAddByScan
  refine wpAny_bind (wpAny_bind (wpAny_rule (wpAny_bind (wpAny_setScan_of hk at0 dat0 K.fits el ?_))))
  cases hfi : List.findIdx? (fun e => (mixKind P w).is k e.2) es.toList with
  | some j =>
    dsimp only
    obtain ⟨hj, pj, _⟩ := List.findIdx?_eq_some_iff_getElem.mp hfi
    have inL : k ∈ L.map (·.1) := by
      obtain ⟨p, hp, ep'⟩ := List.mem_map.mp (K.perm.mem_iff.mp (List.getElem_mem hj))
      have e2 : p.2 = es.toList[j].2 := by rw [← ep']
      rw [← e2] at pj
      have ek := (mixKind P w).inj p.2 k p.1 pj (K.is p hp).1
      exact List.mem_map.mpr ⟨p, hp, ek.symm⟩
    exact wpAny_pure (wpAny_pure (done s.heap _ L (Heap.SameBut.refl a s.heap) ⟨o, es, ep, t, at0, ex0, dat0, K⟩ (fun i => ⟨.inr, fun z => z.elim (fun y => by rw [y]; exact inL) id⟩) (Nat.le_succ _)))
  | none =>
    dsimp only
    have notL : k ∉ L.map (·.1) := fun z => by
      obtain ⟨p, hp, rfl⟩ := List.mem_map.mp z
      have c := List.findIdx?_eq_none_iff.mp hfi _ (K.perm.mem_iff.mpr (List.mem_map.mpr ⟨p, hp, rfl⟩))
      rw [(K.is p hp).1] at c
      cases c
    have gave : ∀ (b : Bool) {s₁ : Shared} {Q' : Unit → Shared → Prop}, Q' () s₁ → wpAny (model P w) A (match b with | true => rule "set.scan.the-table-gave-way" | false => pure ()) Q' E s₁ :=
      fun b _ _ q => by
        cases b
        · exact wpAny_pure q
        · exact wpAny_rule q
    have l1 := layNew_perm t es ((mixKind P w).hash k) v
    have l2 := layNew_fits t es ((mixKind P w).hash k) v
    have l3 := layNew_ris t es ((mixKind P w).hash k) v K.ris
    have l4 := layNew_led t es ((mixKind P w).hash k) v
    revert l1 l2 l3 l4
    generalize layNew t es ((mixKind P w).hash k) v = Z
    obtain ⟨e1, t1, dm, gw⟩ := Z
    intro l1 l2 l3 l4
    dsimp only at l1 l2 l3 l4 ⊢
    rw [Array.toList_push] at l1
    have base : ∀ t' : SetTable, t'.fits e1.size = true → Ris t'.place.toList → (w.params.followText "set-order" = true ∨ t'.led = true) → KSe P w ((k, v) :: L) e1 t' := fun t' f1 f2 f3 =>
      ⟨(l1.trans (List.perm_append_singleton _ _)).trans (K.perm.cons _), fun p hp => (List.mem_cons.mp hp).elim (fun z => by rw [z]; exact ⟨hk, hsc⟩) (K.is p), List.nodup_cons.mpr ⟨notL, K.nd⟩, room, f1, f2, f3⟩
    have led1 : w.params.followText "set-order" = true ∨ t1.led = true := K.led.imp id fun z => by rw [l4]; exact z
    have fin : ∀ h', Heap.SameBut a s.heap h' → KS P w h' a ((k, v) :: L) → Q true { s with heap := h' } := fun h' sb r =>
      done h' true _ sb r (fun i => by rw [List.map_cons, List.mem_cons]) (Nat.le_refl _)
    refine wpAny_bind (gave _ ?_)
    split
    · refine wpAny_bind ?_
      rw [hashByValue_scannable 8 hsc]
      refine wpAny_pure ?_
      refine ks_tail (fun b _ _ q => gave b q) at0 ex0 dat0 (base _ ?_ ?_ ?_) fun h' sb r => ?_
      · first | (split <;> first | exact l2 | exact SetTable.fits_plain_off l2) | exact l2
      · first | (split <;> exact l3) | exact l3
      · first | (split <;> exact led1) | exact led1
      · dsimp only
        exact wpAny_pure (fin h' sb r)
    · refine wpAny_bind (wpAny_pure ?_)
      simp only [↓reduceIte]
      refine ks_tail (fun b _ _ q => gave b q) at0 ex0 dat0 (base _ l2 l3 led1) fun h' sb r => ?_
      dsimp only
      exact wpAny_pure (fin h' sb r)
end
end Dn

/-! sorted(set(xs)), len(set(xs)): the calls -/
namespace Dn
open PySem PySem.Spec PyProof.Rows L2
section
variable {P : Program} {w : World} {A : Around} {E : Value → Shared → Prop} {s : Shared}
theorem ks_loop {I : Addr} {fp wr : List Addr} {G : Array GenState → Array GenState → Prop} {n : Nat} {Pv : Nat → Value → Prop} {St : Nat → Shared → Prop} {R : Result → Shared → Prop}
    (W : WalksS P w A.in1 I fp wr G n Pv St) (T : Addr) (out : T ∉ fp) (ks : List Key) (hn : n = ks.length) (room : ks.length + 1 < scanBound)
    (each : ∀ i v, Pv i v → ∃ k, ks[i]? = some k ∧ (mixKind P w).is k v = true ∧ v.scannable = true) :
    ∀ (m i : Nat) (s : Shared), n - i = m → i ≤ n → St i s → (∃ L, L.length ≤ i ∧ KS P w s.heap T L ∧ ∀ j, j ∈ L.map (·.1) ↔ j ∈ ks.take i) →
      (∀ s' L, Moved (T :: wr) G s s' → L.length ≤ n → KS P w s'.heap T L → (∀ j, j ∈ L.map (·.1) ↔ j ∈ ks) → R (.ok (.ret .none)) s') →
      codeAny (model P w) A (.builtin "set.update.loop" ⟨[.ref T, .ref I], []⟩) R s := by
  have outW : T ∉ wr := fun z => out (W.sub _ z)
  have wide : ∀ b ∈ wr, b ∈ T :: wr := fun b z => List.mem_cons_of_mem _ z
  intro m
  induction m with
  | zero =>
    intro i s em hi hst hL fin
    obtain ⟨L, z1, z2, z3⟩ := hL
    obtain rfl : i = n := by omega
    refine codeAny_builtin F.entry_set_update_loop ?_
    rw [Around.under_plainId F.plain_set_update_loop _]
    show wpAny _ A.in1 (pyNext (.ref I) >>= _) _ _ s
    refine wpAny_bind (W.done s _ _ hst fun s' mv => ?_)
    show wpAny _ A.in1 (ret Value.none) _ _ s'
    refine wpAny_pure (fin s' L (mv.mono wide) z1 (z2.at fun o e => mv.heap T o outW e) fun j => ?_)
    rw [z3 j, List.take_of_length_le (by omega)]
  | succ m ih =>
    intro i s em hi hst hL fin
    obtain ⟨L, z1, z2, z3⟩ := hL
    have lt : i < n := by omega
    refine codeAny_builtin F.entry_set_update_loop ?_
    rw [Around.under_plainId F.plain_set_update_loop _]
    show wpAny _ A.in1 (pyNext (.ref I) >>= _) _ _ s
    refine wpAny_bind (W.item i s _ _ lt hst fun v s' hv hst' mv => ?_)
    obtain ⟨k, e1, e2, e3⟩ := each i v hv
    have z4 : KS P w s'.heap T L := z2.at fun o e => mv.heap T o outW e
    show wpAny _ A.in1 (holding [v] (setAdd T v) >>= _) _ _ s'
    refine wpAny_bind (wpAny_holding ?_)
    unfold setAdd
    refine wpAny_holding (wpAny_bind ((mixKind P w).pyHash e2 ?_))
    refine ks_add (s := { s' with toks := s'.toks + 1 }) e2 e3 z4 (by omega) fun h' b L' sb r mem len => ?_
    have next : ∃ L0, L0.length ≤ i + 1 ∧ KS P w h' T L0 ∧ ∀ j, j ∈ L0.map (·.1) ↔ j ∈ ks.take (i + 1) := ⟨L', by omega, r, fun j => by
      rw [mem j, z3 j, List.take_add_one, e1, List.mem_append]
      simp only [Option.toList_some, List.mem_singleton]
      exact Or.comm⟩
    have stays : ∀ b o, b ≠ T → s'.heap.get? b = some o → h'.get? b = some o := fun b o hb e => (sb.2 b hb).trans e
    refine wpAny_pure ⟨plainId_quiet F.plain_set_update_loop _, ih (i + 1) _ (by omega) lt (W.frame _ s' _ _ hst' (Nat.le_succ _) fun b hb o e => stays b o (fun z => out (z ▸ hb)) e) next fun s9 L9 mv9 c1 c2 c3 => ?_⟩
    exact fin s9 L9 (Moved.trans W.gtrans ((mv.mono wide).then_heap (Nat.le_succ _) fun b o hb e => stays b o (fun z => hb (z ▸ List.mem_cons_self)) e) mv9) c1 c2 c3

set_option maxRecDepth 100000 in
set_option maxHeartbeats 3200000 in
/-- set(xs) of a list -/
theorem ks_call {l : Addr} {items : Array Value} (ks : List Key) {Q : Value → Shared → Prop} (hh : A.handled = none) (hl : s.heap.IsList l items) (hn : items.size = ks.length) (room : ks.length + 1 < scanBound)
    (each : ∀ (i : Nat) v, items[i]? = some v → ∃ k, ks[i]? = some k ∧ (mixKind P w).is k v = true ∧ v.scannable = true)
    (fin : ∀ (h' : Heap) (tk : Nat) (L : List (Key × Value)), KS P w h' s.heap.objs.size L → L.length ≤ ks.length → (∀ j, j ∈ L.map (·.1) ↔ j ∈ ks) → (∀ b o, s.heap.get? b = some o → h'.get? b = some o) → Q (.ref s.heap.objs.size) { s with heap := h', toks := tk }) :
    wpAny (model P w) A (call (.type "set") [.ref l]) Q E s := by
  obtain ⟨c, tl, hmro⟩ := F.called_set.mro
  have hmade := F.called_set.made
  have hsub := F.called_set.sub
  refine wpAny_call (codeAny_of_tree ?_)
  show wpAny _ _ (callAny (.type "set") _) _ _ _
  refine wpAny_pure ⟨Code.quiet_builtin _ (by decide +kernel), codeAny_builtin F.entry_type_call ?_⟩
  rw [Around.under_plain (weight_type_call_type "set" [.ref l] []) rfl]
  have h1 := F.called_set.notType
  have h2 := F.called_set.canCreate
  have hct := F.typeCall_set_1 (.ref l)
  repeat (any_goals (first | assumption | wp_step))
  refine codeAny_mono (code_set_led1 (.ref l) (E := E) (Q₁ := fun obj s₁ => obj = .ref s.heap.objs.size ∧ s₁ = { s with heap := s.heap.push (fso w) }) ⟨rfl, rfl⟩) fun r s₁ hr => ?_
  cases r with
  | error e => exact hr
  | ok fl =>
    cases fl with
    | ret obj =>
      obtain ⟨rfl, rfl⟩ := hr
      have atS : (s.heap.push (fso w)).get? s.heap.objs.size = some (fso w) := Heap.get?_push_size _ rfl
      have hT : Shared.TypeIs { s with heap := s.heap.push (fso w) } (.ref s.heap.objs.size) "set" := ⟨_, atS, rfl⟩
      have hli := F.called_set.init.lookup
      have hbi := F.called_set.init.bind (.ref s.heap.objs.size)
      repeat (any_goals (first | assumption | wp_step))
      refine codeAny_mono (codeAny_call_builtin (R := wants (fun r s₂ => r = .none ∧ ∃ h' tk L, s₂ = { s with heap := h', toks := tk } ∧ KS P w h' s.heap.objs.size L ∧ L.length ≤ ks.length ∧ (∀ j, j ∈ L.map (·.1) ↔ j ∈ ks) ∧
          (∀ b o, s.heap.get? b = some o → h'.get? b = some o)) E) F.called_set.init.plain F.entry_set_init (check_set_init_1 hT ?_)) fun r₂ s₂ hr₂ => ?_
      · obtain ⟨⟨ocls, odict, odata, oslots⟩, hol, hcl, nl, hdl⟩ := hl
        simp only at hcl hdl
        subst hcl; subst hdl
        have l0 : l < s.heap.objs.size := Heap.lt_size hol
        have hol' : (s.heap.push (fso w)).get? l = some { cls := .type "list", dict := odict, data := .seq items nl, slots := oslots } := Heap.get?_push_of_some _ hol
        have hsls := F.sub_list_set
        have hslf := F.sub_list_frozenset
        have hne : (Value.type "list" == Value.type "dict") = false := by decide
        have isl : (s.heap.push (fso w)).IsList l items := ⟨_, hol', rfl, nl, rfl⟩
        unfold Builtin.«set.__init__» noKeywords Builtin.Frozenset.updateFrom
        generalize hPI : pyIter = PI
        wp_walk
        subst hPI
        refine wpAny_pyIter_list isl ?_
        refine wpAny_bind (wpAny_runValue ?_)
        have hh3 : A.in1.in1.in1.handled = none := by simp [hh]
        have sz : (s.heap.push (fso w)).objs.size = s.heap.objs.size + 1 := Heap.size_push ..
        have apart : l ≠ (s.heap.push (fso w)).objs.size := by rw [sz]; exact Nat.ne_of_lt (Nat.lt_succ_of_lt l0)
        have outF : s.heap.objs.size ∉ [(s.heap.push (fso w)).objs.size, l] := by
          rw [sz]
          exact fun z => (List.mem_cons.mp z).elim (fun y => absurd y (Nat.ne_of_lt (Nat.lt_succ_self _))) fun y => absurd (List.mem_singleton.mp y) (Nat.ne_of_gt l0)
        refine ks_loop (P := P) (w := w) ((Walks.list hh3 _ l apart items).toS) s.heap.objs.size outF ks hn room each (items.size - 0) 0 _ (by omega) (Nat.zero_le _)
          ⟨⟨_, Heap.get?_push_size _ rfl, rfl, rfl⟩, (isl.push _)⟩ ?start ?fini
        case start => exact ⟨[], Nat.le_refl _, ks_new (Heap.get?_push_of_some _ atS), fun j => by simp⟩
        case fini =>
          intro s' L mv c1 c2 c3
          obtain ⟨h', g2, d', tk', os'⟩ := s'
          obtain rfl : g2 = s.gens := mv.gens
          obtain rfl : d' = s.drawn := mv.drawn
          obtain rfl : os' = s.os := mv.os
          show wpAny _ _ _ _ _ _
          refine wpAny_pure ?_
          show wpAny _ _ (ret Value.none) _ _ _
          refine wpAny_pure ⟨rfl, h', tk', L, rfl, c2, by omega, c3, fun b o e => ?_⟩
          have b0 : b < s.heap.objs.size := Heap.lt_size e
          refine mv.heap b o ?_ (Heap.get?_push_of_some _ (Heap.get?_push_of_some _ e))
          rw [sz]
          exact fun z => (List.mem_cons.mp z).elim (fun y => absurd y (Nat.ne_of_lt b0)) fun y => absurd (List.mem_singleton.mp y) (Nat.ne_of_lt (Nat.lt_succ_of_lt b0))
      · cases r₂ with
        | error e => exact hr₂
        | ok fl₂ =>
          cases fl₂ with
          | ret r =>
            obtain ⟨rfl, h', tk, L, rfl, c1, c2, c3, c4⟩ := hr₂
            repeat (any_goals (first | assumption | wp_step))
            exact fin _ _ _ c1 c2 c3 c4
          | _ => exact hr₂.elim
    | _ => exact hr.elim
end
end Dn

/-! sorted(set(xs)), len(set(xs)): the rules -/
namespace Dn
open PySem PySem.Spec PyProof.Rows L2
def ddp {α : Type} [DecidableEq α] : List α → List α
  | [] => []
  | x :: l => if x ∈ ddp l then ddp l else x :: ddp l
theorem mem_ddp {α : Type} [DecidableEq α] {y : α} : ∀ {l : List α}, y ∈ ddp l ↔ y ∈ l
  | [] => Iff.rfl
  | x :: l => by
    have ih := mem_ddp (y := y) (l := l)
    unfold ddp
    split
    · rename_i h
      rw [ih, List.mem_cons]
      exact ⟨.inr, fun z => z.elim (fun e => by rw [e]; exact mem_ddp.mp h) id⟩
    · rw [List.mem_cons, List.mem_cons, ih]
theorem nodup_ddp {α : Type} [DecidableEq α] : ∀ l : List α, (ddp l).Nodup
  | [] => List.nodup_nil
  | x :: l => by
    unfold ddp
    split
    · exact nodup_ddp l
    · rename_i h
      exact List.nodup_cons.mpr ⟨h, nodup_ddp l⟩
theorem ddp_le {α : Type} [DecidableEq α] : ∀ l : List α, (ddp l).length ≤ l.length
  | [] => Nat.le_refl _
  | x :: l => by
    have := ddp_le l
    unfold ddp
    split
    · rw [List.length_cons]
      omega
    · rw [List.length_cons, List.length_cons]
      omega
def sortI (l : List Int) : List Int := l.mergeSort fun a b => decide (a ≤ b)
theorem sortI_perm (l : List Int) : (sortI l).Perm l := List.mergeSort_perm l _
theorem sortI_ord (l : List Int) : (sortI l).Pairwise (· ≤ ·) := by
  have := List.pairwise_mergeSort (le := fun a b : Int => decide (a ≤ b)) (fun a b c h k => by simp only [decide_eq_true_eq] at *; omega) (fun a b => by simp only [Bool.or_eq_true, decide_eq_true_eq]; omega) l
  exact this.imp fun h => by simpa using h
theorem ordI_uniq : ∀ {l m : List Int}, l.Pairwise (· ≤ ·) → m.Pairwise (· ≤ ·) → l.Perm m → l = m
  | [], m, _, _, p => (List.Perm.eq_nil p.symm).symm
  | x :: l, [], _, _, p => by cases p.length_eq
  | x :: l, y :: m, h, k, p => by
    have hx := List.pairwise_cons.mp h
    have ky := List.pairwise_cons.mp k
    have e : x = y := by
      have m1 : x ∈ y :: m := p.mem_iff.mp List.mem_cons_self
      have m2 : y ∈ x :: l := p.mem_iff.mpr List.mem_cons_self
      rcases List.mem_cons.mp m1 with e | m1
      · exact e
      · rcases List.mem_cons.mp m2 with e | m2
        · exact e.symm
        · have := hx.1 y m2
          have := ky.1 x m1
          omega
    subst e
    rw [ordI_uniq hx.2 ky.2 (List.Perm.cons_inv p)]
theorem sortI_uniq {l m : List Int} (p : m.Perm l) (h : m.Pairwise (· ≤ ·)) : m = sortI l := ordI_uniq h (sortI_ord l) (p.trans (sortI_perm l).symm)

/-! ### sorted of the set at a -/
def vStr : Value → Str
  | .str x _ => x
  | _ => ⟨#[]⟩
def vNum : Value → Int
  | .int i _ => i
  | _ => 0
theorem strs_vs : ∀ {vs : List Value}, (∀ v ∈ vs, ∃ x t, v = Value.str x t) → StrsAre vs (vs.map vStr)
  | [], _ => .nil
  | v :: vs, h => by
    obtain ⟨x, t, rfl⟩ := h v List.mem_cons_self
    exact .cons x t (strs_vs fun u hu => h u (List.mem_cons_of_mem _ hu))
theorem nums_vs : ∀ {vs : List Value}, (∀ v ∈ vs, ∃ x t, v = Value.int x t) → IntsAre vs (vs.map vNum)
  | [], _ => .nil
  | v :: vs, h => by
    obtain ⟨x, t, rfl⟩ := h v List.mem_cons_self
    exact .cons x t (nums_vs fun u hu => h u (List.mem_cons_of_mem _ hu))
theorem perm_of_mem {α : Type} [DecidableEq α] {l m : List α} (h : l.Nodup) (k : ∀ x, x ∈ l ↔ x ∈ m) : l.Perm (ddp m) :=
  (List.perm_ext_iff_of_nodup h (nodup_ddp m)).mpr fun x => (k x).trans mem_ddp.symm
section
variable {P : Program} {w : World} {A : Around} {E : Value → Shared → Prop} {s : Shared} {a : Addr} {L : List (Key × Value)}
/-- up to the sort of the values -/
theorem ks_sorted {Q : Value → Shared → Prop} (R : KS P w s.heap a L) (hh : A.handled = none) (few : L.length < 64)
    (go : ∀ (s1 : Shared) (vs : List Value), (∀ b o, s.heap.get? b = some o → s1.heap.get? b = some o) → s.heap.objs.size ≤ s1.heap.objs.size → s1.gens = s.gens → s1.os = s.os → vs.Perm (L.map (·.2)) →
      (s1.heap.push (seqObj "list" vs.toArray 0)).get? s1.heap.objs.size = some (seqObj "list" vs.toArray 0) →
      wpAny (model P w) A.in1 (call (.builtin "list.sort") [.ref s1.heap.objs.size]) (fun _ s' => Q (.ref s1.heap.objs.size) s') E { s1 with heap := s1.heap.push (seqObj "list" vs.toArray 0) }) :
    wpAny (model P w) A (call (.builtin "sorted") [.ref a]) Q E s := by
  obtain ⟨o, es, ep, t, at0, ex0, dat0, K⟩ := R
  refine Calls.call_function_entry kind_sorted plain_sorted entry_sorted (args_sorted1 _) ?_
  unfold Builtin.«sorted»
  refine wpAny_bind (m := checkCount "sorted" 1 1 _) (wpAny_pure ?_)
  refine wpAny_bind (collect_set (A := A.in1) hh ⟨o, at0, ex0.1, dat0⟩ K.fits (by rw [K.size]; exact K.few) K.ris K.led fun s1 vs k1 hz g1 o1 pm => ?_)
  have pv : vs.Perm (L.map (·.2)) := by
    have q := pm.trans (K.perm.map (·.2))
    rw [List.map_map] at q
    exact q
  have lv : vs.length = L.length := by rw [pv.length_eq, List.length_map]
  refine wpAny_bind (wpAny_newList ?_ (by rw [lv, sizeLine_eq]; omega))
  refine wpAny_bind (wpAny_holding (wpAny_mono (go s1 vs k1 hz g1 o1 pv (Heap.get?_push_size _ rfl)) (fun _ s' x => ?_) fun _ _ e => e))
  exact wpAny_pure ⟨_, rfl, x⟩
theorem push_keep {s1 : Shared} {vs : List Value} {out : Array Value} {b : Addr} {u : Obj} (q : s1.heap.get? b = some u) :
    (sortedHeap (s1.heap.push (seqObj "list" vs.toArray 0)) s1.heap.objs.size vs out).get? b = some u := by
  have hlt := Heap.lt_size q
  rw [sortedHeap_old (Nat.ne_of_lt hlt) (by rw [Heap.size_push]; exact Nat.lt_succ_of_lt hlt)]
  exact Heap.get?_push_of_some _ q
theorem ks_sortedS {xs : List Str} {Q : Value → Shared → Prop} (R : KS P w s.heap a L) (hh : A.handled = none) (few : L.length < 64) (hk : ∀ j : Key, j ∈ L.map (·.1) ↔ j ∈ xs.map Sum.inr)
    (fin : ∀ s' p (out : Array Value) (c : Nat), (∀ b o, s.heap.get? b = some o → s'.heap.get? b = some o) → s'.gens = s.gens → s'.os = s.os → s.heap.objs.size ≤ p →
      s'.heap.get? p = some (seqObj "list" out c) → StrsAre out.toList (sortS (ddp xs)) → Q (.ref p) s') :
    wpAny (model P w) A (call (.builtin "sorted") [.ref a]) Q E s := by
  have K : (L.map (·.1)).Nodup ∧ ∀ p ∈ L, ∃ x t, p.1 = .inr x ∧ p.2 = Value.str x t := by
    obtain ⟨o, es, ep, t, at0, ex0, dat0, K⟩ := R
    refine ⟨K.nd, fun p hp => ?_⟩
    have h1 : p.1 ∈ xs.map Sum.inr := (hk p.1).mp (List.mem_map.mpr ⟨p, hp, rfl⟩)
    obtain ⟨x, _, e⟩ := List.mem_map.mp h1
    rcases keyIs_shape (show keyIs p.1 p.2 = true from (K.is p hp).1) with ⟨i, tk, e2, _⟩ | ⟨y, tk, e2, e3⟩
    · rw [← e] at e2
      cases e2
    · exact ⟨y, tk, e2, e3⟩
  refine ks_sorted R hh few fun s1 vs k1 hz g1 o1 pv at1 => ?_
  have hS : StrsAre vs (vs.map vStr) := strs_vs fun v hv => by
    obtain ⟨p, hp, rfl⟩ := List.mem_map.mp (pv.mem_iff.mp hv)
    obtain ⟨x, t, _, e⟩ := K.2 p hp
    exact ⟨x, t, e⟩
  have lv : vs.length < 64 := by rw [pv.length_eq, List.length_map]; exact few
  have px : (vs.map vStr).Perm (ddp xs) := by
    have e : L.map (·.1) = (L.map fun p => vStr p.2).map Sum.inr := by
      rw [List.map_map]
      refine List.map_congr_left fun p hp => ?_
      obtain ⟨x, t, e1, e2⟩ := K.2 p hp
      show p.1 = Sum.inr (vStr p.2)
      rw [e1, e2] <;> rfl
    have q := pv.map vStr
    rw [List.map_map] at q
    refine q.trans (perm_of_mem ?_ fun x => ?_)
    · have n := K.1
      rw [e] at n
      exact (List.pairwise_map.mp n).imp fun h z => h (congrArg Sum.inr z)
    · have m := hk (.inr x)
      rw [e, List.mem_map, List.mem_map] at m
      constructor
      · intro z
        obtain ⟨y, hy, ey⟩ := m.mp ⟨x, z, rfl⟩
        cases ey
        exact hy
      · intro z
        obtain ⟨y, hy, ey⟩ := m.mpr ⟨x, z, rfl⟩
        cases ey
        exact hy
  refine wpAny_call_entry slot_list_sort ⟨_, at1, rfl⟩ entry_list_sort (list_sort_treeK strKind_oneLt at1 hS.keysOf (fun v₁ v₂ rest e => keyKind_strs (by rw [← e]; exact hS)) lv fun st' hp hs => ?_) (args_list_sort _)
  obtain ⟨ys, f1, f2, f3⟩ := sorted_out_str hS hp hs
  obtain ⟨c, at2⟩ := sortedHeap_at (vs := vs) (out := (arrOf st').map (·.2)) at1
  refine ⟨_, rfl, fin _ s1.heap.objs.size _ c (fun b u e => push_keep (k1 b u e)) g1 o1 hz at2 ?_⟩
  rw [← sortS_uniq (f2.trans px) f3]
  exact f1
theorem ks_sortedI {xs : List Int} {Q : Value → Shared → Prop} (R : KS P w s.heap a L) (hh : A.handled = none) (few : L.length < 64) (hk : ∀ j : Key, j ∈ L.map (·.1) ↔ j ∈ xs.map Sum.inl)
    (fin : ∀ s' p (out : Array Value) (c : Nat), (∀ b o, s.heap.get? b = some o → s'.heap.get? b = some o) → s'.gens = s.gens → s'.os = s.os → s.heap.objs.size ≤ p →
      s'.heap.get? p = some (seqObj "list" out c) → IntsAre out.toList (sortI (ddp xs)) → Q (.ref p) s') :
    wpAny (model P w) A (call (.builtin "sorted") [.ref a]) Q E s := by
  have K : (L.map (·.1)).Nodup ∧ ∀ p ∈ L, ∃ x t, p.1 = .inl x ∧ p.2 = Value.int x t := by
    obtain ⟨o, es, ep, t, at0, ex0, dat0, K⟩ := R
    refine ⟨K.nd, fun p hp => ?_⟩
    have h1 : p.1 ∈ xs.map Sum.inl := (hk p.1).mp (List.mem_map.mpr ⟨p, hp, rfl⟩)
    obtain ⟨x, _, e⟩ := List.mem_map.mp h1
    rcases keyIs_shape (show keyIs p.1 p.2 = true from (K.is p hp).1) with ⟨i, tk, e2, e3⟩ | ⟨y, tk, e2, _⟩
    · exact ⟨i, tk, e2, e3⟩
    · rw [← e] at e2
      cases e2
  refine ks_sorted R hh few fun s1 vs k1 hz g1 o1 pv at1 => ?_
  have hS : IntsAre vs (vs.map vNum) := nums_vs fun v hv => by
    obtain ⟨p, hp, rfl⟩ := List.mem_map.mp (pv.mem_iff.mp hv)
    obtain ⟨x, t, _, e⟩ := K.2 p hp
    exact ⟨x, t, e⟩
  have lv : vs.length < 64 := by rw [pv.length_eq, List.length_map]; exact few
  have px : (vs.map vNum).Perm (ddp xs) := by
    have e : L.map (·.1) = (L.map fun p => vNum p.2).map Sum.inl := by
      rw [List.map_map]
      refine List.map_congr_left fun p hp => ?_
      obtain ⟨x, t, e1, e2⟩ := K.2 p hp
      show p.1 = Sum.inl (vNum p.2)
      rw [e1, e2] <;> rfl
    have q := pv.map vNum
    rw [List.map_map] at q
    refine q.trans (perm_of_mem ?_ fun x => ?_)
    · have n := K.1
      rw [e] at n
      exact (List.pairwise_map.mp n).imp fun h z => h (congrArg Sum.inl z)
    · have m := hk (.inl x)
      rw [e, List.mem_map, List.mem_map] at m
      constructor
      · intro z
        obtain ⟨y, hy, ey⟩ := m.mp ⟨x, z, rfl⟩
        cases ey
        exact hy
      · intro z
        obtain ⟨y, hy, ey⟩ := m.mpr ⟨x, z, rfl⟩
        cases ey
        exact hy
  refine wpAny_call_entry slot_list_sort ⟨_, at1, rfl⟩ entry_list_sort (list_sort_tree at1 hS lv fun out ns' f1 f2 f3 => ?_) (args_list_sort _)
  obtain ⟨c, at2⟩ := sortedHeap_at (vs := vs) (out := out) at1
  refine ⟨_, rfl, fin _ s1.heap.objs.size _ c (fun b u e => push_keep (k1 b u e)) g1 o1 hz at2 ?_⟩
  rw [← sortI_uniq (f2.trans px) f3]
  exact f1
end
/-! ### the rules -/
def tSortSet (K : PySem.W.Frag) (ta : TE) : TE := fun σ H Q => ta σ H fun x H1 => ∃ l, x = .ref l ∧
  ((∃ xs : List Str, SqL K H1 l (xs.map V.str) ∧ xs.length < 4000 ∧ (ddp xs).length < 64 ∧ ∀ p, H1 p = none → Q (.ref p) (upd H1 p (.lst ((sortS (ddp xs)).map V.str)))) ∨
   ∃ xs : List Int, SqL K H1 l (xs.map V.int) ∧ xs.length < 4000 ∧ (ddp xs).length < 64 ∧ ∀ p, H1 p = none → Q (.ref p) (upd H1 p (.lst ((sortI (ddp xs)).map V.int))))
section
variable {X : Cx}
theorem vals_key {xs : List V} {us : List Value} (r : Vals xs us) {ks : List Key} (e : xs = ks.map kV) : ∀ (i : Nat) v, us[i]? = some v → ∃ k, ks[i]? = some k ∧ (mixKind X.prog X.w).is k v = true ∧ v.scannable = true := by
  subst e
  induction ks generalizing us with
  | nil =>
    cases r
    intro i v h
    simp at h
  | cons k ks ih =>
    cases r with
    | @cons _ u _ us' r1 r2 =>
      intro i v h
      cases i with
      | zero =>
        have e : u = v := by simpa using h
        subst e
        exact ⟨k, rfl, kV_is r1, key_scan r1⟩
      | succ i =>
        obtain ⟨k', h1, h2⟩ := ih r2 i v (by simpa using h)
        exact ⟨k', by simpa using h1, h2⟩
theorem pe_sortSet {a : Expr} {ta : TE} {p p2 q pos : Pos} (hg : Gl X "sorted") (hm : X.mg "sorted" = none) (hg2 : Gl X "set") (hm2 : X.mg "set" = none) (ha : PE X a ta) (hc : X.calm = true := by rfl)
    (na : starEach [a] X.env = (false, eval a X.env) :: starEach [] X.env := by rfl) : PE X (.Call (.Name "sorted" p) [.Call (.Name "set" p2) [a] [] q] [] pos) (tSortSet X.K ta) := by
  refine ⟨fun pins s σ H Q I h => ?_⟩
  refine Call_ (ld_blt I hg hm boot_sorted ?_)
  refine PyProof.Rows.callWith_builtin1 (PyProof.Rows.args_cons ?_ rfl) rfl rfl
  refine Call_ (ld_blt I hg2 hm2 boot_set ?_)
  refine PyProof.Rows.callWith_type1 (PyProof.Rows.args_cons (thn (ha.run pins s σ H _ I h) fun v s1 ⟨x, H1, I1, r1, q1⟩ => PyProof.Rows.args_nil ?_) na) na rfl
  obtain ⟨l, rfl, q1⟩ := q1
  cases r1
  have step : ∀ (ys : List V) (ks : List Key), ys = ks.map kV → SqL X.K H1 l ys → ks.length < 4000 →
      (∀ (s2 : Shared) (L : List (Key × Value)), s2.gens = s1.gens → s2.os = s1.os → Inv X pins σ H1 s2 → KS X.prog X.w s2.heap s1.heap.objs.size L → (∀ j, j ∈ L.map (·.1) ↔ j ∈ ks) →
        wpAny (model X.prog X.w) X.A (call (.builtin "sorted") [.ref s1.heap.objs.size]) (EP X pins σ Q) X.xe s2) →
      wpAny (model X.prog X.w) X.A (call (.type "set") [.ref l]) (fun v₁ s₁ => wpAny (model X.prog X.w) X.A (spliced (backTo pos (starEach [] X.env))) (fun vs s₂ => wpAny (model X.prog X.w) X.A (call (.builtin "sorted") (v₁ :: vs)) (EP X pins σ Q) X.xe s₂) X.xe s₁) X.xe s1 := fun ys ks e hq hl go => by
    obtain ⟨its, r, pl, hz⟩ := I1.list hq
    have el : its.toArray.size = ks.length := by rw [List.size_toArray, ← r.length, e, List.length_map]
    refine ks_call (P := X.prog) (w := X.w) ks (I1.ok.hd hc) pl.isList el (by unfold scanBound; omega) (fun i v hv => vals_key (X := X) r e i v (by simpa using hv)) fun h' tk L c1 c2 c3 c4 => ?_
    refine PyProof.Rows.args_nil ?_
    exact go { s1 with heap := h', toks := tk } L rfl rfl (I1.kept c4) c1 c3
  have laid : ∀ (s2 s' : Shared) (p : Addr) (out : Array Value) (c : Nat) (zs : List V), Inv X pins σ H1 s2 → (∀ b o, s2.heap.get? b = some o → s'.heap.get? b = some o) → s'.gens = s2.gens → s'.os = s2.os → s2.heap.objs.size ≤ p →
      s'.heap.get? p = some (seqObj "list" out c) → Vals zs out.toList → zs.length ≤ sizeLine → (∀ p, H1 p = none → Q (.ref p) (upd H1 p (.lst zs))) → EP X pins σ Q (.ref p) s' := fun s2 s' p out c zs I2 k g o hp at2 rv hl q => by
    have hn : H1 p = none := I2.hok.fresh hp
    have J : Inv X pins σ (upd H1 p (.lst zs)) { s2 with heap := s'.heap, gens := s'.gens, drawn := s'.drawn, toks := s'.toks } :=
      I2.call (ch := []) (Un.laid k hp hn) (I2.hok.laid k hp ⟨hl, out.toList, c, rv, at2⟩) (by rw [g]; exact I2.bare) (fun _ z => nomatch z)
    have e : s' = { s2 with heap := s'.heap, gens := s'.gens, drawn := s'.drawn, toks := s'.toks } := by
      cases s'
      cases s2
      cases o
      rfl
    rw [e]
    exact ⟨.ref p, _, J, rfl, q p hn⟩
  have lenL : ∀ {κ : Type} [DecidableEq κ] {L : List (Key × Value)} {f : κ → Key} {xs : List κ}, (∀ i j, f i = f j → i = j) → (L.map (·.1)).Nodup → (∀ j, j ∈ L.map (·.1) ↔ j ∈ xs.map f) → (ddp xs).length < 64 → L.length < 64 := fun {κ} _ {L} {f} {xs} inj nd m h => by
    have p : (L.map (·.1)).Perm ((ddp xs).map f) := (List.perm_ext_iff_of_nodup nd ((List.pairwise_map.mpr ((nodup_ddp xs).imp fun h z => h (inj _ _ z))))).mpr fun j => by
      rw [m j, List.mem_map, List.mem_map]
      exact ⟨fun ⟨x, h1, h2⟩ => ⟨x, mem_ddp.mpr h1, h2⟩, fun ⟨x, h1, h2⟩ => ⟨x, mem_ddp.mp h1, h2⟩⟩
    have := p.length_eq
    rw [List.length_map, List.length_map] at this
    omega
  rcases q1 with ⟨xs, hq, hl, h64, q1⟩ | ⟨xs, hq, hl, h64, q1⟩
  · refine step _ (xs.map Sum.inr) (by rw [List.map_map] <;> rfl) hq (by rw [List.length_map]; exact hl) fun s2 L g2 o2 I2 R m => ?_
    have nd : (L.map (·.1)).Nodup := let ⟨_, _, _, _, _, _, _, K⟩ := R; K.nd
    refine ks_sortedS R (I2.ok.hd hc) (lenL (fun i j z => Sum.inr.inj z) nd m h64) m fun s' p out c k g o hp at2 hS => ?_
    refine laid s2 s' p out c _ I2 k g o hp at2 (vals_of_strs hS) ?_ q1
    rw [List.length_map, (sortS_perm _).length_eq]
    exact small64 h64
  · refine step _ (xs.map Sum.inl) (by rw [List.map_map] <;> rfl) hq (by rw [List.length_map]; exact hl) fun s2 L g2 o2 I2 R m => ?_
    have nd : (L.map (·.1)).Nodup := let ⟨_, _, _, _, _, _, _, K⟩ := R; K.nd
    refine ks_sortedI R (I2.ok.hd hc) (lenL (fun i j z => Sum.inl.inj z) nd m h64) m fun s' p out c k g o hp at2 hS => ?_
    refine laid s2 s' p out c _ I2 k g o hp at2 (vals_of_ints hS) ?_ q1
    rw [List.length_map, (sortI_perm _).length_eq]
    exact small64 h64
end
/-! ### over the store -/
def dSortSet (f : DE) : DE := fun ρ S => match f ρ S with
  | some (x, S1) => (match asL S1 x with
    | some ds => (match strsD ds with
      | some xs => if xs.length < 4000 ∧ (ddp xs).length < 64 then some (.lst .own ((sortS (ddp xs)).map .str), S1) else none
      | none => (match intsD ds with
        | some xs => if xs.length < 4000 ∧ (ddp xs).length < 64 then some (.lst .own ((sortI (ddp xs)).map .int), S1) else none
        | none => none))
    | none => none)
  | none => none
section
variable {X : Cx} {e a : Expr} {f : DE} {p p2 q pos : Pos}
theorem ed_sortSet (T : TB X.mg) (hg : Gl X "sorted") (hg2 : Gl X "set") (ha : ED X a f) (hc : X.calm = true := by rfl)
    (na : starEach [a] X.env = (false, eval a X.env) :: starEach [] X.env := by rfl) : ED X (.Call (.Name "sorted" p) [.Call (.Name "set" p2) [a] [] q] [] pos) (dSortSet f) :=
  .of (pe_sortSet hg T.sorted hg2 T.set ha.pe hc na) fun F S H ρ σ d S' Q hk R rr hf hq => by
    unfold dSortSet at hf
    split at hf
    · rename_i x S1 h1
      refine rdE.go hk R rr h1 fun F1 H1 v le hk1 R1 r1 rv => ?_
      split at hf
      · rename_i ds hL
        obtain ⟨a, us, rfl, hs, rl⟩ := asL_sq R1 rv hL
        rw [hk1] at hs
        refine ⟨a, rfl, ?_⟩
        split at hf
        · rename_i xs hx
          obtain ⟨⟨c1, c2⟩, hf⟩ := of_ite hf
          cases hf
          obtain rfl := strsD_ok rl hx
          exact .inl ⟨xs, hs, c1, c2, new_lst R1 (strs_rel _) fun F' H' v' le' R' rv' => hq F' H' v' (le.trans le') R' rv'⟩
        · split at hf
          · rename_i xs hx
            obtain ⟨⟨c1, c2⟩, hf⟩ := of_ite hf
            cases hf
            obtain rfl := intsD_ok rl hx
            exact .inr ⟨xs, hs, c1, c2, new_lst R1 (ints_rel _) fun F' H' v' le' R' rv' => hq F' H' v' (le.trans le') R' rv'⟩
          · cases hf
      · cases hf
    · cases hf
end
end Dn

/-! x in (y, ..), data of any depth -/
namespace Dn
open PySem PySem.Spec PyProof.Rows L2
section
variable {X : Cx} {a b : Expr} {f g : DE} {pos : Pos}
theorem hu65' {k : Nat} {A : Around} (hr : Room k A) : A.units + 65 < cLine := by have := hr.un; omega
end
end Dn

/-! (x, ..) * k -/
namespace Dn
open PySem PySem.Spec PyProof.Rows L2
section
variable {X : Cx}
end
end Dn

namespace Dn
open PySem PySem.Spec PyProof.Rows L2

/-! ### d.pop(k) -/
section
variable {X : Cx} {e a b o : Expr} {f g : DE} {fa : DA} {pos : Pos} {st : Stmt}
end

/-! ### min(d), its keys numbers -/
end Dn

/-! one step at a time -/
namespace Dn
open PySem PySem.Spec PyProof.Rows L2
section
variable {f g h : DE} {fa : DA} {s t : DS} {p : P2} {ρ ρ' : Ev} {S S1 S2 S3 S' : Sto} {i : Nat} {d x y z x' y' z' : DV} {pl F : PL} {xs ds : List DV} {o : Option Out} {r : Option (DV × Sto)}
theorem seq_nx (h : s ρ S = some (.nx ρ' S')) : dSeq s t ρ S = t ρ' S' := by rw [v_seq, h]
theorem seq_rt (h : s ρ S = some (.rt d S')) : dSeq s t ρ S = some (.rt d S') := by rw [v_seq, h]
theorem ifS_t (h : f ρ S = some (.bl true, S1)) : dIfS f s t ρ S = s ρ S1 := by rw [v_ifS, h]
theorem ifS_f (h : f ρ S = some (.bl false, S1)) : dIfS f s t ρ S = t ρ S1 := by rw [v_ifS, h]
theorem set_of (h : f ρ S = some (d, S1)) : dSet i f ρ S = some (.nx (ρ.set i (some d)) S1) := by rw [v_set, h]
theorem ret_of (h : f ρ S = some (d, S1)) : dRet f ρ S = some (.rt d S1) := by rw [v_ret, h]
theorem bin_of (h1 : f ρ S = some (x, S1)) (h2 : g ρ S1 = some (y, S2)) (h3 : p x y S2 = r) : dBin p f g ρ S = r := by
  rw [v_bin, h1]
  simp only [h2, h3]
theorem prim_of (h1 : fa ρ S = some (xs, S1)) (h2 : pl xs S1 = r) : dPrim pl fa ρ S = r := by
  rw [v_prim, h1]
  simp only [h2]
theorem args1 (h1 : f ρ S = some (x, S1)) : aCons f aNil ρ S = some ([x], S1) := by
  rw [v_cons, h1]
  rfl
theorem args2 (h1 : f ρ S = some (x, S1)) (h2 : g ρ S1 = some (y, S2)) : aCons f (aCons g aNil) ρ S = some ([x, y], S2) := by
  rw [v_cons, h1]
  simp only [args1 h2]
theorem args3 (h1 : f ρ S = some (x, S1)) (h2 : g ρ S1 = some (y, S2)) (h3 : h ρ S2 = some (z, S3)) : aCons f (aCons g (aCons h aNil)) ρ S = some ([x, y, z], S3) := by
  rw [v_cons, h1]
  simp only [args2 h2 h3]
theorem argsC {xs : List DV} (h1 : f ρ S = some (x, S1)) (h2 : fa ρ S1 = some (xs, S2)) : aCons f fa ρ S = some (x :: xs, S2) := by
  rw [v_cons, h1]
  simp only [h2]
theorem callP (h1 : fa ρ S = some (xs, S1)) (hc : cpL true S1 xs = some ds) (hp : pureOf F ds = some d) : dPrim (cP (pureOf F) []) fa ρ S = some (d, S1) := by
  rw [v_prim, h1]
  simp only [cP_eq, hc, hp]
theorem callPP (h1 : fa ρ S = some (xs, S1)) (hc : plainL xs = true) (hp : pureOf F xs = some d) : dPrim (cP (pureOf F) []) fa ρ S = some (d, S1) := callP h1 (cpL_plain hc) hp
theorem callS (h1 : fa ρ S = some (xs, S1)) (hp : F xs S1 = r) : dPrim (cS F []) fa ρ S = r := by
  rw [v_prim, h1]
  show F (xs ++ []) S1 = r
  rw [List.append_nil, hp]
theorem and_t (h1 : f ρ S = some (.bl true, S1)) (h2 : g ρ S1 = r) : dAnd f g ρ S = r := by
  rw [v_and, h1]
  simp only [h2]
theorem and_f (h1 : f ρ S = some (.bl false, S1)) : dAnd f g ρ S = some (.bl false, S1) := by rw [v_and, h1]
theorem or_t (h1 : f ρ S = some (.bl true, S1)) : dOr f g ρ S = some (.bl true, S1) := by rw [v_or, h1]
theorem or_f (h1 : f ρ S = some (.bl false, S1)) (h2 : g ρ S1 = r) : dOr f g ρ S = r := by
  rw [v_or, h1]
  simp only [h2]
theorem not_of {a : Bool} (h1 : f ρ S = some (.bl a, S1)) : dNot f ρ S = some (.bl (!a), S1) := by rw [v_not, h1]
theorem ifS_b {a : Bool} (h : f ρ S = some (.bl a, S1)) : dIfS f s t ρ S = (if a = true then s ρ S1 else t ρ S1) := by
  cases a with
  | true => exact ifS_t h
  | false => exact ifS_f h
theorem for_of {it : DI} {gt : DG} (h1 : it ρ S = some (ds, S1)) (h2 : forL gt s ds ρ S1 = o) : dFor it gt s ρ S = o := by
  rw [v_for, h1]
  simp only [h2]
theorem run_rt {np n : Nat} {b : DS} (hl : xs.length = np) (h1 : b (xs.map some ++ List.replicate (n - xs.length) none) S = some (.rt d S')) : runF np n b xs S = some (d, S') := by
  unfold runF
  rw [if_pos hl, h1]
end
end Dn

/-! loops as folds -/
namespace Dn
open PySem PySem.Spec PyProof.Rows L2
theorem for_fold0 {α β : Type} {D : α → DV} {g : DG} {body : DS} {I : Nat → β → Ev → Prop} {st : β → Sto} {f : β → α → β} : ∀ (K : List α) (k : Nat) (b : β) (ρ : Ev), I k b ρ →
    (∀ (i : Nat) (a : α), K[i]? = some a → ∀ b ρ, I (k + i) b ρ → ∃ ρ1 S1 ρ2, g (D a) ρ (st b) = some (ρ1, S1) ∧ (body ρ1 S1 = some (.nx ρ2 (st (f b a))) ∨ body ρ1 S1 = some (.ct ρ2 (st (f b a)))) ∧ I (k + i + 1) (f b a) ρ2) →
    ∃ ρ', forL g body (K.map D) ρ (st b) = some (.nx ρ' (st (K.foldl f b))) ∧ I (k + K.length) (K.foldl f b) ρ'
  | [], k, b, ρ, h, _ => ⟨ρ, rfl, h⟩
  | a :: K, k, b, ρ, h, hs => by
    obtain ⟨ρ1, S1, ρ2, h1, h2, h3⟩ := hs 0 a rfl b ρ h
    obtain ⟨ρ', h4, h5⟩ := for_fold0 (D := D) (g := g) (body := body) (I := I) (st := st) (f := f) K (k + 1) (f b a) ρ2 h3 fun i a' ha b ρ hb => by
      have := hs (i + 1) a' ha b ρ (by rw [show k + (i + 1) = k + 1 + i by omega]; exact hb)
      rw [show k + (i + 1) + 1 = k + 1 + i + 1 by omega] at this
      exact this
    refine ⟨ρ', ?_, by rw [List.length_cons, List.foldl_cons, show k + (K.length + 1) = k + 1 + K.length by omega]; exact h5⟩
    rw [List.map_cons, List.foldl_cons, ← h4]
    conv => lhs; unfold forL
    simp only [h1]
    rcases h2 with h2 | h2 <;> rw [h2]
/-- a loop that keeps a state: I at each turn -/
theorem for_fold {α β : Type} {D : α → DV} {g : DG} {body : DS} {I : Nat → β → Ev → Prop} {st : β → Sto} {f : β → α → β} (K : List α) (b : β) (ρ : Ev) (h : I 0 b ρ)
    (hs : ∀ (i : Nat) (a : α), K[i]? = some a → ∀ b ρ, I i b ρ → ∃ ρ1 S1 ρ2, g (D a) ρ (st b) = some (ρ1, S1) ∧ (body ρ1 S1 = some (.nx ρ2 (st (f b a))) ∨ body ρ1 S1 = some (.ct ρ2 (st (f b a)))) ∧ I (i + 1) (f b a) ρ2) :
    ∃ ρ', forL g body (K.map D) ρ (st b) = some (.nx ρ' (st (K.foldl f b))) ∧ I K.length (K.foldl f b) ρ' := by
  have := for_fold0 (D := D) (g := g) (body := body) (I := I) (st := st) (f := f) K 0 b ρ h fun i a ha b ρ hb => by
    rw [Nat.zero_add] at hb ⊢
    exact hs i a ha b ρ hb
  rwa [Nat.zero_add] at this
/-- a loop that puts behind a list: one thing each turn -/
theorem for_app {α : Type} {D E : α → DV} {g : DG} {body : DS} {I : Ev → Prop} {st : List DV → Sto} (m : Nat) (K : List α) (acc : List DV) (ρ : Ev) (h : I ρ) (hz : acc.length + K.length ≤ m)
    (hs : ∀ a ∈ K, ∀ (b : List DV) ρ, b.length < m → I ρ → ∃ ρ1 S1 ρ2, g (D a) ρ (st b) = some (ρ1, S1) ∧ body ρ1 S1 = some (.nx ρ2 (st (b ++ [E a]))) ∧ I ρ2) :
    ∃ ρ', forL g body (K.map D) ρ (st acc) = some (.nx ρ' (st (acc ++ K.map E))) ∧ I ρ' := by
  obtain ⟨ρ', h1, h2, h3⟩ := for_fold (D := D) (g := g) (body := body) (I := fun i b ρ => b.length = acc.length + i ∧ I ρ) (st := st) (f := fun b a => b ++ [E a]) K acc ρ ⟨rfl, h⟩ fun i a ha b ρ hb => by
    have hi := (List.getElem?_eq_some_iff.mp ha).1
    obtain ⟨ρ1, S1, ρ2, a1, a2, a3⟩ := hs a (List.mem_of_getElem? ha) b ρ (by omega) hb.2
    exact ⟨ρ1, S1, ρ2, a1, .inl a2, by rw [List.length_append, List.length_singleton]; omega, a3⟩
  have e : ∀ (K : List α) (acc : List DV), K.foldl (fun b a => b ++ [E a]) acc = acc ++ K.map E := by
    intro K
    induction K with
    | nil => intro acc; rw [List.map_nil, List.append_nil] <;> rfl
    | cons a K ih => intro acc; rw [List.foldl_cons, ih, List.map_cons, List.append_assoc] <;> rfl
  rw [e] at h1
  exact ⟨ρ', h1, h3⟩
theorem append_of {f e : DE} {ρ : Ev} {S : Sto} {n : Nat} {xs : List DV} {y : DV} (h1 : f ρ S = some (.loc n, S)) (hn : S[n]? = some (.lst xs)) (h2 : e ρ S = some (y, S)) (hz : xs.length < 16777216) :
    dExpr (dMt pAppend f (aCons e aNil)) ρ S = some (.nx ρ (S.set n (.lst (xs ++ [y])))) := by
  rw [v_expr, v_mt, h1]
  simp only [asL_loc hn, args1 h2, app_loc hn hz]
theorem choose_all {α β : Type} {P : α → β → Prop} (h : ∀ a, ∃ x, P a x) : ∃ f : α → β, ∀ a, P a (f a) := ⟨fun a => Classical.choose (h a), fun a => Classical.choose_spec (h a)⟩
end Dn

/-! more of loops and lists -/
namespace Dn
open PySem PySem.Spec PyProof.Rows L2
/-- a loop that puts behind a list, where a thing is so -/
theorem for_filt {α : Type} {D E : α → DV} {p : α → Bool} {g : DG} {body : DS} {I : Ev → Prop} {st : List DV → Sto} (m : Nat) (K : List α) (acc : List DV) (ρ : Ev) (h : I ρ) (hz : acc.length + K.length ≤ m)
    (hs : ∀ a ∈ K, ∀ (b : List DV) ρ, b.length < m → I ρ → ∃ ρ1 S1 ρ2, g (D a) ρ (st b) = some (ρ1, S1) ∧ body ρ1 S1 = some (.nx ρ2 (st (if p a = true then b ++ [E a] else b))) ∧ I ρ2) :
    ∃ ρ', forL g body (K.map D) ρ (st acc) = some (.nx ρ' (st (acc ++ (K.filter p).map E))) ∧ I ρ' := by
  obtain ⟨ρ', h1, h2, h3⟩ := for_fold (D := D) (g := g) (body := body) (I := fun i b ρ => b.length ≤ acc.length + i ∧ I ρ) (st := st) (f := fun b a => if p a = true then b ++ [E a] else b) K acc ρ ⟨Nat.le_refl _, h⟩ fun i a ha b ρ hb => by
    have hi := (List.getElem?_eq_some_iff.mp ha).1
    obtain ⟨ρ1, S1, ρ2, a1, a2, a3⟩ := hs a (List.mem_of_getElem? ha) b ρ (by omega) hb.2
    refine ⟨ρ1, S1, ρ2, a1, .inl a2, ?_, a3⟩
    split
    · rw [List.length_append, List.length_singleton]
      omega
    · omega
  have e : ∀ (K : List α) (acc : List DV), K.foldl (fun b a => if p a = true then b ++ [E a] else b) acc = acc ++ (K.filter p).map E := by
    intro K
    induction K with
    | nil => intro acc; rw [List.filter_nil, List.map_nil, List.append_nil] <;> rfl
    | cons a K ih =>
      intro acc
      rw [List.foldl_cons, ih, List.filter_cons]
      by_cases q : p a = true
      · rw [if_pos q, if_pos q, List.map_cons, List.append_assoc]
        rfl
      · rw [if_neg q, if_neg q]
  rw [e] at h1
  exact ⟨ρ', h1, h3⟩
section
variable {f g : DE} {ρ : Ev} {S S1 S2 : Sto}
theorem rgN_of {n : Nat} (h : f ρ S = some (.int (n : Nat), S1)) (hz : n < 1000000) : iRange1 (aCons f aNil) ρ S = some ((List.range n).map fun (i : Nat) => DV.int i, S1) := by
  unfold iRange1
  rw [args1 h]
  simp only
  rw [if_pos (by omega), Int.toNat_natCast]
  unfold rgD
  refine congrArg some (congrArg (·, S1) (List.map_congr_left fun i _ => ?_))
  rw [Int.zero_add]
theorem lenL_of {k : LK} {xs : List DV} (h : f ρ S = some (.lst k xs, S1)) : dPrim pLen (aCons f aNil) ρ S = some (.int (xs.length : Nat), S1) := prim_of (args1 h) (by cases k <;> rfl)
theorem lenT_of {xs : List DV} (h : f ρ S = some (.tup xs, S1)) : dPrim pLen (aCons f aNil) ρ S = some (.int (xs.length : Nat), S1) := prim_of (args1 h) rfl
theorem tupL_of {k : LK} {xs : List DV} (h : f ρ S = some (.lst k xs, S1)) : dPrim pTuple (aCons f aNil) ρ S = some (.tup xs, S1) := prim_of (args1 h) (by cases k <;> rfl)
theorem strsD_of : ∀ xs : List Str, strsD (xs.map .str) = some xs
  | [] => rfl
  | x :: xs => by
    show (match strsD (xs.map DV.str) with | some ys => some (x :: ys) | none => none) = _
    rw [strsD_of xs]
theorem sortedL_of {k : LK} {l : List Str} (h : f ρ S = some (.lst k (l.map .str), S1)) (hz : l.length < 64) : dPrim pSorted (aCons f aNil) ρ S = some (.lst .own ((sortS l).map .str), S1) := by
  refine prim_of (args1 h) ?_
  unfold pSorted srt
  simp only [asL_lst, strsD_of, if_pos hz]
theorem iSeqL_of {k : LK} {xs : List DV} (h : f ρ S = some (.lst k xs, S1)) : iSeq f ρ S = some (xs, S1) := by
  rw [iSeq_eq, h]
theorem iSeqT_of {xs : List DV} (h : f ρ S = some (.tup xs, S1)) : iSeq f ρ S = some (xs, S1) := by
  rw [iSeq_eq, h]
/-- a comprehension of all -/
theorem lc_all {α : Type} {D E : α → DV} {g : DG} {c fe : DE} : ∀ {K : List α}, (∀ b ∈ K, ∃ ρ1, g (D b) ρ S = some (ρ1, S) ∧ c ρ1 S = some (.bl true, S) ∧ fe ρ1 S = some (E b, S)) → lcL g c fe ρ (K.map D) S = some (K.map E, S)
  | [], _ => rfl
  | b :: K, h => by
    obtain ⟨ρ1, h1, h2, h3⟩ := h b List.mem_cons_self
    rw [List.map_cons]
    unfold lcL
    simp only [h1, h2, h3, lc_all fun b hb => h b (List.mem_cons_of_mem _ hb)]
    rfl
/-- and of those that are so -/
theorem lc_filt {α : Type} {D E : α → DV} {p : α → Bool} {g : DG} {c fe : DE} : ∀ {K : List α}, (∀ b ∈ K, ∃ ρ1, g (D b) ρ S = some (ρ1, S) ∧ c ρ1 S = some (.bl (p b), S) ∧ (p b = true → fe ρ1 S = some (E b, S))) → lcL g c fe ρ (K.map D) S = some ((K.filter p).map E, S)
  | [], _ => rfl
  | b :: K, h => by
    obtain ⟨ρ1, h1, h2, h3⟩ := h b List.mem_cons_self
    have ih := lc_filt (K := K) fun b hb => h b (List.mem_cons_of_mem _ hb)
    rw [List.map_cons, List.filter_cons]
    unfold lcL
    simp only [h1, h2]
    cases q : p b with
    | true =>
      simp only [h3 q, ih]
      rfl
    | false => simpa using ih
end
end Dn

/-! sorted(..) of numbers -/
namespace Dn
open PySem PySem.Spec PyProof.Rows L2
end Dn

/-! text * number -/
namespace Dn
open PySem PySem.Spec PyProof.Rows L2
section
variable {X : Cx}
end
end Dn

/-! a comprehension over a list that stays -/
namespace Dn
open PySem PySem.Spec PyProof.Rows L2
theorem addI_of {f g : DE} {ρ : Ev} {S S1 S2 : Sto} {a b : Int} (h1 : f ρ S = some (.int a, S1)) (h2 : g ρ S1 = some (.int b, S2)) : dBin pAdd f g ρ S = some (.int (a + b), S2) := bin_of h1 h2 rfl
theorem modI_of {f g : DE} {ρ : Ev} {S S1 S2 : Sto} {a b : Int} (h1 : f ρ S = some (.int a, S1)) (h2 : g ρ S1 = some (.int b, S2)) (hb : 0 < b) : dBin pMod f g ρ S = some (.int (a % b), S2) := bin_of h1 h2 (v_modI hb)
end Dn

/-! list(reversed(a list)) -/
namespace RT
open PySem PySem.Spec PyProof.Rows
section
variable {prog : Program} {w : World} {A : Around} {E : Value → Shared → Prop} {s : Shared}
theorem extend_rev {R : Result → Shared → Prop} {it l : Addr} {items : Array Value} (hh : A.handled = none) (hit : s.heap.IsRevIter it l ((items.size : Int) - 1)) (hl : s.heap.IsList l items) (hne : l ≠ it) (hn : items.size ≤ sizeLine)
    (S : Addr) (res : Value) (c₀ : Nat) (hS : s.heap.get? S = some { cls := .type "list", data := .seq #[] c₀ }) (hSi : S ≠ it) (hSl : S ≠ l)
    (hR : ∀ h' tk acc' c', (∀ b o, b ≠ S → b ≠ it → s.heap.get? b = some o → h'.get? b = some o) → h'.get? S = some { cls := .type "list", dict := none, data := .seq acc' c', slots := #[] } →
      ItemsOf (fun i v => items[items.size - 1 - i]? = some v) acc' items.size → R (.ok (.ret res)) { s with heap := h', toks := tk }) :
    wpAny (model prog w) A.in1 (Builtin.List.listExtendWith (.ref S) (.ref it) res)
      (fun fin s' => match fin with | .done f => R (.ok f) s' | .again c' => c'.quiet = true ∧ codeAny (model prog w) A c' R s') (fun e s' => R (.error e) s') s := by
  have W := (Walks.listRev (prog := prog) (w := w) (A := A.in1) hh it l hne items).toS
  have hSf : S ∉ [it, l] := by simp only [List.mem_cons, List.not_mem_nil, or_false, not_or]; exact ⟨hSi, hSl⟩
  have hT : s.TypeIs (.ref it) "list_reverseiterator" := hit.typeIs
  have h1 : Builtin.List.listSameRef (.ref S) (.ref it) = false := by simp [Builtin.List.listSameRef, hSi]
  unfold Builtin.List.listExtendWith
  refine wpAny_bind (wpAny_typeOf hT ?_)
  rw [if_neg (by rw [h1]; decide)]
  refine wpAny_bind (wpAny_pyIter_revIter hit ?_)
  refine wpAny_bind (wpAny_holding ?_)
  unfold Builtin.List.listLengthHint
  refine wpAny_bind (wpAny_specialOf hT nolen_lri ?_)
  show wpAny _ _ (specialOf (Value.ref it) (Str.ofString "__length_hint__") >>= _) _ _ _
  refine wpAny_bind (wpAny_specialOf hT hint_lri ?_)
  generalize hid : ("list_reverseiterator.__length_hint__" : String) = id0
  wp_delta
  rw [show splitId id0 = some ("list_reverseiterator", "__length_hint__") from by subst hid; decide +kernel]
  subst hid
  refine wpAny_bind (wpAny_isInstance (b := true) hT (by rw [isSubtype_type]; kernel_rfl) ?_)
  refine wpAny_pure ?_
  rw [if_neg (by decide)]
  have e0 : ((items.size : Nat) : Int) - 1 - ((0 : Nat) : Int) = (items.size : Int) - 1 := by omega
  refine wpAny_pure ⟨plainId_quiet F.plain_extend_loop _, codeAny_extend_loopS W hn _ hSf _ items.size 0 _ _ _ rfl (Nat.zero_le _) ⟨Nat.zero_le _, by rw [e0]; exact hit, hl⟩ hS (ItemsOf.nil _) fun s' acc' c' hm hS' hacc => ?_⟩
  rw [Moved.eq_with hm]
  refine hR s'.heap s'.toks acc' c' (fun b o hb hb2 e => hm.heap b o (fun hmem => ?_) e) hS' hacc
  rcases List.mem_cons.mp hmem with e' | hmem
  · exact hb e'
  · exact hb2 (List.mem_singleton.mp hmem)
theorem list_init_rev {R : Result → Shared → Prop} {it l : Addr} {items : Array Value} (hh : A.handled = none) (hit : s.heap.IsRevIter it l ((items.size : Int) - 1)) (hl : s.heap.IsList l items) (hne : l ≠ it) (hn : items.size ≤ sizeLine)
    (S : Addr) (hS : s.heap.get? S = some { cls := .type "list", data := .seq #[] }) (hSi : S ≠ it) (hSl : S ≠ l)
    (hR : ∀ h' tk acc' c', (∀ b o, b ≠ S → b ≠ it → s.heap.get? b = some o → h'.get? b = some o) → h'.get? S = some { cls := .type "list", dict := none, data := .seq acc' c', slots := #[] } →
      ItemsOf (fun i v => items[items.size - 1 - i]? = some v) acc' items.size → R (.ok (.ret .none)) { s with heap := h', toks := tk }) :
    wpAny (model prog w) A.in1 (Builtin.«list.__init__» ⟨[.ref S, .ref it], []⟩)
      (fun fin s' => match fin with | .done f => R (.ok f) s' | .again c' => c'.quiet = true ∧ codeAny (model prog w) A c' R s') (fun e s' => R (.error e) s') s := by
  show wpAny _ _ (do let old ← Builtin.List.listItems (.ref S); Builtin.List.listUpdate (.ref S) (fun _ => #[]); letGo old.toList.reverse; Builtin.List.listExtendWith (.ref S) (.ref it) .none) _ _ s
  refine wpAny_bind ?_
  unfold Builtin.List.listItems
  refine wpAny_bind (wpAny_seqItems hS rfl (wpAny_pure ?_))
  show wpAny _ _ (updateSeq S (fun _ => #[]) >>= fun _ => letGo (#[] : Array Value).toList.reverse >>= fun _ => Builtin.List.listExtendWith (.ref S) (.ref it) .none) _ _ s
  refine wpAny_bind (wpAny_updateSeq hS rfl ?_)
  have hS₂ := Heap.get?_update_self (Obj.mapSeq (fun _ => (#[] : Array Value))) hS rfl
  have oth : ∀ b o, b ≠ S → s.heap.get? b = some o → (s.heap.update S (Obj.mapSeq (fun _ => (#[] : Array Value)))).get? b = some o :=
    fun b o hb e => (Heap.get?_update_other _ _ (Ne.symm hb)).trans e
  refine wpAny_bind (wpAny_letGo ?_)
  refine extend_rev hh (hit.at fun o e => oth it o (Ne.symm hSi) e) ?_ hne hn S .none _ hS₂ hSi hSl fun h' tk acc' c' hk hS' hacc => ?_
  · obtain ⟨ol, hol, r⟩ := hl
    exact ⟨ol, oth l ol (Ne.symm hSl) hol, r⟩
  · exact hR h' tk acc' c' (fun b o hb hb2 e => hk b o hb hb2 (oth b o hb e)) hS' hacc
end
section
variable {prog : Program} {w : World} {A : Around} {E : Value → Shared → Prop} {s : Shared}
theorem call_list_rev {it l : Addr} {items : Array Value} {Q : Value → Shared → Prop} (hh : A.handled = none) (hit : s.heap.IsRevIter it l ((items.size : Int) - 1)) (hl : s.heap.IsList l items) (hne : l ≠ it) (hn : items.size ≤ sizeLine)
    (hQ : ∀ h' tk acc' c', (∀ b o, b ≠ it → s.heap.get? b = some o → h'.get? b = some o) →
      h'.get? s.heap.objs.size = some { cls := .type "list", dict := none, data := .seq acc' c', slots := #[] } → ItemsOf (fun i v => items[items.size - 1 - i]? = some v) acc' items.size → Q (.ref s.heap.objs.size) { s with heap := h', toks := tk }) :
    wpAny (model prog w) A (call (.type "list") [.ref it]) Q E s := by
  obtain ⟨oi, hoi, _⟩ := id hit
  obtain ⟨ol, hol, _⟩ := id hl
  have hSi : s.heap.objs.size ≠ it := Nat.ne_of_gt (Heap.lt_size hoi)
  have hSl : s.heap.objs.size ≠ l := Nat.ne_of_gt (Heap.lt_size hol)
  refine callType_codes (Q₁ := fun obj s₁ => obj = .ref s.heap.objs.size ∧ s₁ = { s with heap := s.heap.push { cls := .type "list", data := .seq #[] } }) F.called_list (F.typeCall_list_1 _) F.entry_list_init
    (code_list_new _ ⟨rfl, rfl⟩) fun obj s₁ h₁ => ?_
  obtain ⟨rfl, rfl⟩ := h₁
  have hS : (s.heap.push { cls := .type "list", data := .seq #[] }).get? s.heap.objs.size = some { cls := .type "list", data := .seq #[] } := Heap.get?_push_size _ rfl
  refine ⟨⟨_, hS, rfl⟩, F.args_list_init_2 _ _, list_init_rev (A := A.in1) hh (hit.at fun o e => Heap.get?_push_of_some _ e) (hl.push _) hne hn _ hS hSi hSl fun h' tk acc' c' hk hS' hacc => ?_⟩
  exact ⟨rfl, hQ h' tk acc' c' (fun b o hb e => hk b o (Nat.ne_of_lt (Heap.lt_size e)) hb (Heap.get?_push_of_some _ e)) hS' hacc⟩
end
end RT
namespace Dn
open PySem PySem.Spec PyProof.Rows L2 RT
def tLstRev (K : PySem.W.Frag) (te : TE) : TE := fun σ H Q => te σ H fun v H1 => ∃ (a : Addr) (xs : List V), v = .ref a ∧ SqL K H1 a xs ∧ ∀ q, H1 q = none → Q (.ref q) (upd H1 q (.lst xs.reverse))
section
variable {X : Cx}
theorem pe_lstRev {e : Expr} {te : TE} {p p2 pos pos2 : Pos} (hc : X.calm = true) (hg : Gl X "list") (hm : X.mg "list" = none) (hg2 : Gl X "reversed") (hm2 : X.mg "reversed" = none) (he : PE X e te)
    (hs : starEach [e] X.env = (false, eval e X.env) :: starEach [] X.env := by rfl)
    (hs2 : starEach [.Call (.Name "reversed" p2) [e] [] pos2] X.env = (false, eval (.Call (.Name "reversed" p2) [e] [] pos2) X.env) :: starEach [] X.env := by rfl) :
    PE X (.Call (.Name "list" p) [.Call (.Name "reversed" p2) [e] [] pos2] [] pos) (tLstRev X.K te) := by
  refine ⟨fun pins s σ H Q I h => ?_⟩
  refine Call_ (ld_blt I hg hm boot_list (PyProof.Rows.callWith_type1 (args_cons (Call_ (ld_blt I hg2 hm2 PyProof.Rows.boot_reversed (PyProof.Rows.callWith_type1 (args_cons (thn (he.run pins s σ H _ I h) fun u s1 ⟨v, H1, I1, r1, q1⟩ => args_nil ?_) hs) hs rfl))) hs2) hs2))
  obtain ⟨a, xs, ev, hq, q⟩ := q1
  subst ev
  obtain rfl : u = Value.ref a := r1
  obtain ⟨its, rv, p', hz⟩ := I1.list hq
  refine call_reversed_list p'.isList (args_nil ?_)
  have k0 : ∀ b o, s1.heap.get? b = some o → (s1.heap.push (revObj a ((its.toArray.size : Int) - 1))).get? b = some o := fun b o e => Heap.get?_push_of_some _ e
  have hl := p'.isList
  obtain ⟨ol, hol, _⟩ := id hl
  have hne : a ≠ s1.heap.objs.size := Nat.ne_of_lt (Heap.lt_size hol)
  have hn : its.toArray.size ≤ sizeLine := by rw [List.size_toArray, ← rv.length]; exact hz
  have sz : s1.heap.objs.size ≤ (s1.heap.push (revObj a ((its.toArray.size : Int) - 1))).objs.size := by
    show s1.heap.objs.size ≤ (s1.heap.objs.push _).size
    rw [Array.size_push]
    exact Nat.le_succ _
  refine call_list_rev (s := { s1 with heap := s1.heap.push (revObj a ((its.toArray.size : Int) - 1)) }) (I1.ok.hd hc) ⟨_, Heap.get?_push_size _ rfl, rfl, rfl⟩ (hl.push _) hne hn fun h' tk acc c' hk e' hi => ?_
  refine ⟨.ref (s1.heap.push (revObj a ((its.toArray.size : Int) - 1))).objs.size, upd H1 (s1.heap.push (revObj a ((its.toArray.size : Int) - 1))).objs.size (.lst xs.reverse), I1.laid (t' := tk) (fun b o e => hk b o (Nat.ne_of_lt (Heap.lt_size e)) (k0 b o e)) sz (show ObjOk X.prog X.w _ _ _ (.lst xs.reverse) from ⟨?_, acc.toList, c', vals_rev rv hi, ?_⟩), rfl, q _ (I1.hok.fresh sz)⟩
  · rw [List.length_reverse]; exact hz
  · rw [Array.toArray_toList]; exact e'
def dLstRev (f : DE) : DE := fun ρ S => match f ρ S with
  | some (x, S1) => (match asL S1 x with
    | some ds => some (.lst .own ds.reverse, S1)
    | none => none)
  | none => none
theorem ed_lstRev {e : Expr} {f : DE} {p p2 pos pos2 : Pos} (hc : X.calm = true) (hg : Gl X "list") (hm : X.mg "list" = none) (hg2 : Gl X "reversed") (hm2 : X.mg "reversed" = none) (he : ED X e f)
    (hs : starEach [e] X.env = (false, eval e X.env) :: starEach [] X.env := by rfl)
    (hs2 : starEach [.Call (.Name "reversed" p2) [e] [] pos2] X.env = (false, eval (.Call (.Name "reversed" p2) [e] [] pos2) X.env) :: starEach [] X.env := by rfl) :
    ED X (.Call (.Name "list" p) [.Call (.Name "reversed" p2) [e] [] pos2] [] pos) (dLstRev f) :=
  .of (pe_lstRev hc hg hm hg2 hm2 he.pe hs hs2) fun F S H ρ σ d S' Q hk R rr hf hq => by
    unfold dLstRev at hf
    split at hf
    · rename_i x S1 h1
      split at hf
      · rename_i ds hL
        cases hf
        refine rdE.go hk R rr h1 fun F1 H1 v le hk1 R1 r1 rv => ?_
        obtain ⟨a, us, rfl, hs', rl⟩ := asL_sq R1 rv hL
        rw [hk1] at hs'
        exact ⟨a, us, rfl, hs', new_lst R1 rl.rev (PostE.le (S := S') (d := .lst .own ds.reverse) hq le)⟩
      · cases hf
    · cases hf
theorem lstRev_of {f : DE} {ρ : Ev} {S S1 : Sto} {k : LK} {xs : List DV} (h : f ρ S = some (.lst k xs, S1)) : dLstRev f ρ S = some (.lst .own xs.reverse, S1) := by
  unfold dLstRev
  rw [h]
  cases k <;> rfl
end
end Dn

/-! list(range(i, j)) -/
namespace Dn
open PySem PySem.Spec PyProof.Rows L2
section
variable {X : Cx}
def dLstRg2 (f g : DE) : DE := fun ρ S => match f ρ S with
  | some (.int i, S1) => (match g ρ S1 with
    | some (.int j, S2) => if i.natAbs < 8388608 ∧ j.natAbs < 8388608 then some (.lst .own (rgD i (j - i).toNat), S2) else none
    | _ => none)
  | _ => none
theorem rgD_rel {F : Fm} (i : Int) : ∀ (l : List Nat), RelL F (l.map fun (k : Nat) => DV.int (i + (k : Nat))) (l.map fun (k : Nat) => V.int (i + (k : Nat)))
  | [] => rfl
  | k :: l => RelL.cons rfl (rgD_rel i l)
theorem ed_lstRg2 {a b : Expr} {f g : DE} {p p2 pos pos2 : Pos} (hc : X.calm = true) (hg : Gl X "list") (hm : X.mg "list" = none) (hg2 : Gl X "range") (hm2 : X.mg "range" = none) (ha : ED X a f) (hb : ED X b g)
    (na : starEach [a, b] X.env = (false, eval a X.env) :: starEach [b] X.env := by rfl) (nb : starEach [b] X.env = (false, eval b X.env) :: starEach [] X.env := by rfl) (hp : (backTo pos2 (starEach [b] X.env)).any (·.1) = false := by rfl)
    (ne : starEach [.Call (.Name "range" p2) [a, b] [] pos2] X.env = (false, eval (.Call (.Name "range" p2) [a, b] [] pos2) X.env) :: starEach [] X.env := by rfl) :
    ED X (.Call (.Name "list" p) [.Call (.Name "range" p2) [a, b] [] pos2] [] pos) (dLstRg2 f g) :=
  .of (pe_listRg hc hg hm (prg_2 hg2 hm2 ha.pe hb.pe na nb hp) ne) fun F S H ρ σ d S' Q hk R rr hf hq => by
    unfold dLstRg2 at hf
    split at hf
    · rename_i i S1 h1
      split at hf
      · rename_i j S2 h2
        obtain ⟨⟨b1, b2⟩, hf⟩ := of_ite hf
        cases hf
        refine rdE.go hk R rr h1 fun F1 H1 v le hk1 R1 r1 rv => rdE.go hk1 R1 r1 h2 fun F2 H2 u le2 hk2 R2 r2 ru => ?_
        obtain rfl := (show v = .int i from rv)
        obtain rfl := (show u = .int j from ru)
        refine ⟨i, j, rfl, rfl, ⟨by omega, by omega, by omega, by omega, by omega⟩, ?_⟩
        have rl : RelL F2 (rgD i (j - i).toNat) (rgV i j) := rgD_rel i (List.range (j - i).toNat)
        exact new_lst R2 rl (PostE.le (S := S') (d := .lst .own (rgD i (j - i).toNat)) hq (le.trans le2))
      · cases hf
    · cases hf
end
end Dn

/-! x in [y, ..], data of any depth -/
namespace Dn
open PySem PySem.Spec PyProof.Rows L2
def rInLD (K : PySem.W.Frag) : R2 := fun x y H Q => ∃ d ds, Dp K H x d ∧ Dp K H y (.list ds) ∧ SeqAt.shaped d = true ∧ SeqAt.shaped (.list ds) = true ∧ Q (.bl (ds.any fun z => PyData.eqv z d)) H
theorem op_inLD {X : Cx} (hu : X.A.units + 65 < cLine) : OpR X (compareOp .In) (rInLD X.K) := by
  intro pins s σ H x y v u Q I rx ry h
  obtain ⟨d, ds, hd, he, sd, se, q⟩ := h
  obtain ⟨as, r1⟩ := Dp.reads I d x v hd rx
  obtain ⟨bs, r2⟩ := Dp.reads I (.list ds) y u he ry
  exact SeqAt.in_list_reads r2 r1 (SeqAt.canLay_of_shaped se) (SeqAt.canLay_of_shaped sd) (room_in_shaped sd hu) ⟨.bl _, H, I, rfl, q⟩
def pInL : P2 := fun x y S => match y with
  | .lst .own ds => (match toPy x, toPyL ds with
    | some d, some es => if SeqAt.shaped d = true ∧ SeqAt.shaped (.list es) = true then some (.bl (es.any fun z => PyData.eqv z d), S) else none
    | _, _ => none)
  | _ => none
theorem ok_inL {K : PySem.W.Frag} : Ok2 K pInL (rInLD K) := fun F S H x y vx vy d S' Q hk R rx ry hp hq => by
  unfold pInL at hp
  split at hp
  · rename_i ds
    split at hp
    · rename_i e es he hes
      obtain ⟨⟨s1, s2⟩, h3⟩ := of_ite hp
      cases h3
      have ry' : Rel F (.lst .own ds) vy := ry
      have hG : Same F.G H := R.g
      have wk : Wk F { F with B := H } := ⟨rfl, R.b, Same.refl _, List.prefix_refl _⟩
      have d1 := toPy_dp (F := { F with B := H }) hG (Same.refl _) x vx e (rx.wk wk) he
      have d2 := toPy_dp (F := { F with B := H }) hG (Same.refl _) (.lst .own ds) vy (.list es) (ry'.wk wk) (by show (match toPyL ds with | some es => some (PyData.list es) | none => none) = _; rw [hes])
      rw [← hk]
      exact ⟨e, es, d1, d2, s1, s2, hq F H _ (.refl F) R rfl⟩
    · cases hp
  · cases hp
section
variable {X : Cx} {a b : Expr} {f g : DE} {pos : Pos}
theorem ed_inL {k : Nat} (hr : Room k X.A) (ha : ED X a f) (hb : ED X b g) (hm : behindInMarks .In b = false) : ED X (.Compare a [.In] [b] pos) (dBin pInL f g) := ed_cmp (op_inLD (hu65' hr)) ok_inL ha hb hm
end
end Dn

namespace Lk33
open PySem PySem.Spec PyProof.Rows L2 Dn
def top (i : Nat) : Stmt := PySem.Challenge.pw_dimhouse_k33_spoilt_in_straight_rows.main.body.getD i (.Pass ⟨0, 0, 0, 0⟩)
def t_TOUCHES : List (Str × He.Dv) := [("load", .int 2), ("store", .int 1), ("take", .int 2), ("lay", .int 1)]
abbrev s_ways_of : Stmt := top 1
abbrev s_ways : Stmt := top 2
abbrev s_place_rows : Stmt := top 5
abbrev s_may_spoil : Stmt := top 6
abbrev s_touch : Stmt := top 7
abbrev s_behind : Stmt := top 8
abbrev s_led_by : Stmt := top 9
abbrev s_spoilt : Stmt := top 10
abbrev s_law_cell_at : Stmt := top 12
abbrev s_law_names : Stmt := top 13
abbrev s_law_whole : Stmt := top 14
abbrev s_law_cutting : Stmt := top 15
abbrev s_law_program : Stmt := top 16
abbrev s_law_pairs : Stmt := top 17
abbrev s_law_right : Stmt := top 18
abbrev s_law : Stmt := top 19
def b_ways_of : DS := (dSeq (dIfS (dBin (pEq false) (dBin pIx (dVar 0) (dC (.int 0))) (dC (.str "end"))) (dRet (dPrim pTup aNil)) dNext)
  (dSeq (dIfS (dBin (pEq false) (dBin pIx (dVar 0) (dC (.int 0))) (dC (.str "go"))) (dRet (dPrim pTup (aCons (dBin pIx (dVar 0) (dC (.int 1))) aNil))) dNext)
  (dSeq (dIfS (dBin (pEq false) (dBin pIx (dVar 0) (dC (.int 0))) (dC (.str "if"))) (dRet (dPrim pTup (aCons (dBin pIx (dVar 0) (dC (.int 2))) (aCons (dBin pAdd (dVar 1) (dC (.int 1))) aNil)))) dNext)
  (dRet (dPrim pTup (aCons (dBin pAdd (dVar 1) (dC (.int 1))) aNil))))))
def F_ways_of : PL := runF 2 2 b_ways_of
def b_ways : DS := (dRet (dLc (iEnum2 (aCons (dBin pIx (dVar 0) (dC (.int 2))) aNil)) (gTupD 2 (gsCons (gSet 1) (gsCons (gSet 2) gsNil))) (dC (.bl true)) (dPrim (cP (pureOf F_ways_of) []) (aCons (dVar 2) (aCons (dVar 1) aNil))) [1, 2]))
def F_ways : PL := runF 1 3 b_ways
def b_place_rows : DS := (dRet (dBin pAdd (dPrim pLst (aCons (dC (.int 0)) aNil)) (dLc (iSeq (dBin pIx (dVar 0) (dC (.int 1)))) (gTupD 2 (gsCons (gSet 1) (gsCons (gSet 2) gsNil))) (dC (.bl true)) (dVar 1) [1, 2])))
def F_place_rows : PL := runF 1 3 b_place_rows
def b_may_spoil : DS := (dSeq (dFor (iSeq (dBin pAdd (dBin pIx (dVar 0) (dC (.int 0))) (dBin pIx (dVar 0) (dC (.int 1))))) (gSet 2) (dIfS (dBin (pEq false) (dBin pIx (dVar 2) (dC (.int 0))) (dVar 1)) (dRet (dNot (dBin pIx (dVar 2) (dC (.int 2))))) dNext))
  (dRet (dC (.bl false))))
def F_may_spoil : PL := runF 2 3 b_may_spoil
def b_touch : DS := (dSeq (dIfS (dAnd (dTabIn false t_TOUCHES (dBin pIx (dVar 0) (dC (.int 0)))) (dBin (pEq false) (dBin pIx (dVar 0) (dTabIx t_TOUCHES (dBin pIx (dVar 0) (dC (.int 0))))) (dVar 1))) (dRet (dBin pIx (dVar 0) (dC (.int 0)))) dNext)
  (dRet (dC (.str ""))))
def F_touch : PL := runF 2 2 b_touch
def b_behind : DS := (dSeq (dIfS (dAnd (dBin (pEq false) (dVar 0) (dC (.str "store"))) (dNot (dVar 1))) (dRet (dC .non)) dNext)
  (dRet (dOr (dVar 1) (dOr (dBin (pEq false) (dVar 0) (dC (.str "load"))) (dBin (pEq false) (dVar 0) (dC (.str "take")))))))
def F_behind : PL := runF 2 2 b_behind
def b_led_by : DS := (dSeq (dSet 2 (dPrim pLstM aNil))
  (dSeq (whileL (dBin (pIs true) (dVar 1) (dC .non)) (dSeq (dExpr (dMt pAppend (dVar 2) (aCons (dBin pIx (dVar 1) (dC (.int 0))) aNil)))
  (dSet 1 (dBin pLfIx (dVar 0) (dVar 1)))) 100000)
  (dSeq (dExpr (dMt pReverse (dVar 2) aNil))
  (dRet (dVar 2)))))
def F_led_by : PL := runF 2 3 b_led_by
def b_spoilt : DS := (dSeq (dIfS (dNot (dPrim (cP (pureOf F_may_spoil) []) (aCons (dVar 0) (aCons (dVar 2) aNil)))) (dRet (dC .non)) dNext)
  (dSeq (dSet 3 (dPrim (cP (pureOf F_ways) []) (aCons (dVar 0) aNil)))
  (dSeq (dSet 4 (dPrim (cP (pureOf F_place_rows) []) (aCons (dVar 1) aNil)))
  (dSeq (dSet 5 (dSl pSl (dVar 4) (oSome (dC (.int 1))) oNone))
  (dSeq (dSet 6 dLfNew)
  (dSeq (dFor (iSeq (dVar 4)) (gSet 7) (dLfSub (dC .non) (dVar 6) (dPrim pTup (aCons (dVar 7) (aCons (dC (.bl false)) aNil)))))
  (dSeq (dSet 8 (dPrim pLfList (aCons (dVar 6) aNil)))
  (dSeq (whileL (dBin pGt (dPrim pLen (aCons (dVar 8) aNil)) (dC (.int 0))) (dSeq (dSet 9 (dMt pPopAt (dVar 8) (aCons (dC (.int 0)) aNil)))
  (dSeq (dSet 10 (dPrim (cP (pureOf F_touch) []) (aCons (dBin pIx (dBin pIx (dVar 0) (dC (.int 2))) (dBin pIx (dVar 9) (dC (.int 0)))) (aCons (dVar 2) aNil))))
  (dSeq (dIfS (dAnd (dBin pIx (dVar 9) (dC (.int 1))) (dBin (pIn false) (dVar 10) (dPrim pTup (aCons (dC (.str "store")) (aCons (dC (.str "lay")) aNil))))) (dRet (dPrim (cS F_led_by []) (aCons (dVar 6) (aCons (dVar 9) aNil)))) dNext)
  (dSeq (dSet 11 (dPrim (cP (pureOf F_behind) []) (aCons (dVar 10) (aCons (dBin pIx (dVar 9) (dC (.int 1))) aNil))))
  (dIfS (dBin (pIs true) (dVar 11) (dC .non)) (dFor (iSeq (dBin pIx (dVar 3) (dBin pIx (dVar 9) (dC (.int 0))))) (gSet 12) (dIfS (dAnd (dBin (pIn true) (dVar 12) (dVar 5)) (dBin (pLfIn true) (dPrim pTup (aCons (dVar 12) (aCons (dVar 11) aNil))) (dVar 6))) (dSeq (dLfSub (dVar 9) (dVar 6) (dPrim pTup (aCons (dVar 12) (aCons (dVar 11) aNil))))
  (dExpr (dMt pAppend (dVar 8) (aCons (dPrim pTup (aCons (dVar 12) (aCons (dVar 11) aNil))) aNil)))) dNext)) dNext))))) 100000)
  (dRet (dC .non))))))))))
def F_spoilt : PL := runF 3 13 b_spoilt
def b_law_cell_at : DS := (dSeq (dIfS (dBin pLt (dVar 1) (dPrim pLen (aCons (dVar 0) aNil))) (dRet (dBin pIx (dVar 0) (dVar 1))) dNext)
  (dRet (dC (.int 0))))
def F_law_cell_at : PL := runF 2 2 b_law_cell_at
def b_law_names : DS := (dSeq (dSet 2 (dC (.str "abcdefghijklmnopqrstuvwxyz")))
  (dSeq (dSet 3 (dBin pMod (dVar 0) (dC (.int 6))))
  (dSeq (dSet 4 (dM1 pJoin (dC (.str "")) (dLc (iRange1 (aCons (dVar 3) aNil)) (gSet 6) (dC (.bl true)) (dBin pIx (dVar 2) (dBin pMod (dBin pDiv (dBin pMod (dBin pMul (dVar 0) (dBin pAdd (dC (.int 48271)) (dBin pMul (dC (.int 2)) (dVar 6)))) (dC (.int 2147483647))) (dC (.int 9))) (dC (.int 26)))) [6])))
  (dSeq (dSet 5 (dBin pMod (dBin pDiv (dVar 0) (dC (.int 6))) (dBin pAdd (dVar 3) (dC (.int 1)))))
  (dRet (dLc (iRange1 (aCons (dVar 1) aNil)) (gSet 6) (dC (.bl true)) (dBin pAdd (dBin pAdd (dSl pSl (dVar 4) oNone (oSome (dVar 5))) (dBin pIx (dVar 2) (dBin pMod (dBin pAdd (dBin pDiv (dVar 0) (dC (.int 36))) (dVar 6)) (dC (.int 26))))) (dSl pSl (dVar 4) (oSome (dVar 5)) oNone)) [6]))))))
def F_law_names : PL := runF 2 7 b_law_names
def b_law_whole : DS := (dRet (dAnd (dIsi .int (dVar 0)) (dNot (dIsi .bool (dVar 0)))))
def F_law_whole : PL := runF 1 1 b_law_whole
def b_law_cutting : DS := (dSeq (dSet 3 (dBin pIx (dPrim pLst (aCons (dC (.int 2)) (aCons (dC (.int 3)) (aCons (dC (.int 5)) (aCons (dC (.int 9)) aNil))))) (dBin pMod (dPrim (cP (pureOf F_law_cell_at) []) (aCons (dVar 0) (aCons (dC (.int 5)) aNil))) (dC (.int 4)))))
  (dSeq (dSet 2 (dSortSet (dBin pAdd (dVar 2) (dPrim pLst (aCons (dBin pIx (dBin pIx (dBin pIx (dVar 1) (dC (.int 0))) (dC (.int 0))) (dC (.int 0))) (aCons (dC (.str "zz")) aNil))))))
  (dSeq (dSet 4 (dPrim pLstM aNil))
  (dSeq (dFor (iRange1 (aCons (dPrim pLen (aCons (dBin pIx (dVar 1) (dC (.int 2))) aNil)) aNil)) (gSet 5) (dSeq (dSet 7 (dBin pMod (dBin pMul (dBin pAdd (dBin pDiv (dPrim (cP (pureOf F_law_cell_at) []) (aCons (dVar 0) (aCons (dC (.int 5)) aNil))) (dC (.int 4))) (dBin pMul (dC (.int 7919)) (dVar 5))) (dC (.int 69621))) (dC (.int 2147483629))))
  (dIfS (dBin (pEq false) (dBin pMod (dBin pDiv (dVar 7) (dC (.int 5))) (dVar 3)) (dC (.int 0))) (dExpr (dMt pAppend (dVar 4) (aCons (dPrim pTup (aCons (dVar 5) (aCons (dPrim pTuple (aCons (dPrim pSorted (aCons (dSl pSl (dVar 2) oNone (oSome (dBin pMod (dBin pDiv (dVar 7) (dC (.int 45))) (dBin pAdd (dPrim pLen (aCons (dVar 2) aNil)) (dC (.int 1)))))) aNil)) aNil)) aNil))) aNil))) dNext)))
  (dSeq (dSet 6 (dPrim pTuple (aCons (dPrim pSorted (aCons (dSl pSl (dVar 2) oNone (oSome (dBin pMod (dBin pDiv (dPrim (cP (pureOf F_law_cell_at) []) (aCons (dVar 0) (aCons (dC (.int 5)) aNil))) (dC (.int 4))) (dBin pAdd (dPrim pLen (aCons (dVar 2) aNil)) (dC (.int 1)))))) aNil)) aNil)))
  (dRet (dPrim pTup (aCons (dVar 6) (aCons (dPrim pTuple (aCons (dVar 4) aNil)) aNil)))))))))
def F_law_cutting : PL := runF 3 8 b_law_cutting
def b_law_program : DS := (dSeq (dSet 1 (dPrim (cP (pureOf F_law_names) []) (aCons (dPrim (cP (pureOf F_law_cell_at) []) (aCons (dVar 0) (aCons (dPrim pInt (aCons (dBin pGt (dBin pMod (dPrim (cP (pureOf F_law_cell_at) []) (aCons (dVar 0) (aCons (dC (.int 1)) aNil))) (dC (.int 3))) (dC (.int 0))) aNil)) aNil))) (aCons (dC (.int 4)) aNil))))
  (dSeq (dSet 2 (dPrim (cP (pureOf F_law_cell_at) []) (aCons (dVar 0) (aCons (dC (.int 3)) aNil))))
  (dSeq (dSet 3 (dPrim pTup (aCons (dPrim pTup (aCons (dBin pIx (dVar 1) (dC (.int 0))) (aCons (dC (.int 7)) (aCons (dBin (pEq false) (dBin pMod (dVar 2) (dC (.int 3))) (dC (.int 0))) aNil)))) (aCons (dPrim pTup (aCons (dBin pIx (dVar 1) (dC (.int 1))) (aCons (dC (.int 0)) (aCons (dBin (pEq false) (dBin pMod (dVar 2) (dC (.int 3))) (dC (.int 1))) aNil)))) aNil))))
  (dSeq (dSet 4 (dPrim pTup (aCons (dPrim pTup (aCons (dBin pIx (dVar 1) (dC (.int 2))) (aCons (dBin pAdd (dC (.int 1)) (dBin pMod (dBin pDiv (dVar 2) (dC (.int 3))) (dC (.int 8)))) (aCons (dBin (pEq false) (dBin pMod (dBin pDiv (dVar 2) (dC (.int 24))) (dC (.int 3))) (dC (.int 0))) aNil)))) (aCons (dPrim pTup (aCons (dBin pIx (dVar 1) (dC (.int 3))) (aCons (dC (.int 2)) (aCons (dBin (pEq false) (dBin pMod (dBin pDiv (dVar 2) (dC (.int 24))) (dC (.int 3))) (dC (.int 1))) aNil)))) aNil))))
  (dSeq (dSet 5 (dPrim (cP (pureOf F_law_names) []) (aCons (dPrim (cP (pureOf F_law_cell_at) []) (aCons (dVar 0) (aCons (dC (.int 0)) aNil))) (aCons (dBin pAdd (dC (.int 2)) (dBin pMod (dPrim (cP (pureOf F_law_cell_at) []) (aCons (dVar 0) (aCons (dC (.int 2)) aNil))) (dC (.int 11)))) aNil))))
  (dSeq (dSet 6 (dPrim pLstM aNil))
  (dSeq (dFor (iSeq (dSl pSl (dVar 0) (oSome (dC (.int 6))) (oSome (dC (.int 63))))) (gSet 7) (dSeq (dSet 8 (dBin pDiv (dBin pMod (dBin pMul (dVar 7) (dC (.int 48271))) (dC (.int 2147483647))) (dC (.int 3))))
  (dSeq (dSet 9 (dBin pIx (dVar 5) (dBin pMod (dVar 8) (dPrim pLen (aCons (dVar 5) aNil)))))
  (dSeq (dSet 10 (dBin pIx (dVar 1) (dBin pMod (dBin pDiv (dVar 8) (dC (.int 11))) (dC (.int 2)))))
  (dSeq (dSet 11 (dPrim pLst (aCons (dPrim pTup (aCons (dC (.str "load")) (aCons (dVar 9) (aCons (dVar 10) aNil)))) (aCons (dPrim pTup (aCons (dC (.str "store")) (aCons (dVar 10) (aCons (dVar 9) aNil)))) (aCons (dPrim pTup (aCons (dC (.str "take")) (aCons (dVar 9) (aCons (dBin pIx (dVar 1) (dBin pAdd (dC (.int 2)) (dBin pMod (dBin pDiv (dVar 8) (dC (.int 11))) (dC (.int 2))))) (aCons (dBin pMod (dBin pDiv (dVar 8) (dC (.int 22))) (dC (.int 9))) aNil))))) aNil)))))
  (dSeq (dSet 11 (dBin pAdd (dVar 11) (dPrim pLst (aCons (dPrim pTup (aCons (dC (.str "lay")) (aCons (dBin pIx (dVar 1) (dBin pAdd (dC (.int 2)) (dBin pMod (dBin pDiv (dVar 8) (dC (.int 11))) (dC (.int 2))))) (aCons (dVar 9) (aCons (dC (.int 5)) aNil))))) (aCons (dPrim pTup (aCons (dC (.str "copy")) (aCons (dVar 9) (aCons (dVar 8) aNil)))) (aCons (dPrim pTup (aCons (dC (.str "say")) (aCons (dVar 9) aNil))) aNil))))))
  (dExpr (dMt pAppend (dVar 6) (aCons (dBin pIx (dVar 11) (dBin pIx (dPrim pLst (aCons (dC (.int 0)) (aCons (dC (.int 0)) (aCons (dC (.int 1)) (aCons (dC (.int 1)) (aCons (dC (.int 2)) (aCons (dC (.int 3)) (aCons (dC (.int 4)) (aCons (dC (.int 5)) aNil))))))))) (dBin pMod (dVar 7) (dC (.int 8))))) aNil)))))))))
  (dRet (dPrim pTup (aCons (dPrim pTup (aCons (dVar 3) (aCons (dVar 4) (aCons (dPrim pTuple (aCons (dBin pAdd (dVar 6) (dPrim pLst (aCons (dPrim pTup (aCons (dC (.str "end")) (aCons (dC (.int 0)) aNil))) aNil))) aNil)) aNil)))) (aCons (dVar 5) aNil)))))))))))
def F_law_program : PL := runF 1 12 b_law_program
def b_law_pairs : DS := (dSeq (dSet 4 (dPrim pLstM aNil))
  (dSeq (dSet 5 (dC (.int 0)))
  (dSeq (dFor (iRange1 (aCons (dPrim pLen (aCons (dVar 0) aNil)) aNil)) (gSet 6) (dSeq (dIfS (dBin (pIn false) (dVar 6) (dVar 1)) (dSet 5 (dVar 6)) dNext)
  (dIfS (dAnd (dBin (pIn false) (dBin pIx (dBin pIx (dVar 0) (dVar 6)) (dC (.int 0))) (dPrim pTup (aCons (dC (.str "store")) (aCons (dC (.str "lay")) aNil)))) (dBin (pEq false) (dBin pIx (dBin pIx (dVar 0) (dVar 6)) (dC (.int 1))) (dVar 2))) (dSeq (dSet 7 (dSl pSl (dVar 0) (oSome (dVar 5)) (oSome (dVar 6))))
  (dSeq (dSet 8 (dLc (iRange1 (aCons (dPrim pLen (aCons (dVar 7) aNil)) aNil)) (gSet 10) (dAnd (dBin (pIn false) (dBin pIx (dBin pIx (dVar 7) (dVar 10)) (dC (.int 0))) (dPrim pTup (aCons (dC (.str "load")) (aCons (dC (.str "take")) aNil)))) (dBin (pEq false) (dBin pIx (dBin pIx (dVar 7) (dVar 10)) (dC (.int 2))) (dVar 2))) (dVar 10) [10]))
  (dSeq (dSet 9 (dLc (iRange1 (aCons (dPrim pLen (aCons (dVar 7) aNil)) aNil)) (gSet 10) (dAnd (dBin (pIn false) (dBin pIx (dBin pIx (dVar 7) (dVar 10)) (dC (.int 0))) (dPrim pTup (aCons (dC (.str "store")) (aCons (dC (.str "lay")) aNil)))) (dBin (pEq false) (dBin pIx (dBin pIx (dVar 7) (dVar 10)) (dC (.int 1))) (dVar 2))) (dVar 10) [10]))
  (dIfS (dAnd (dBin (pEq true) (dVar 8) (dPrim pLst aNil)) (dOr (dVar 3) (dOr (dBin (pEq false) (dVar 9) (dPrim pLst aNil)) (dBin pLt (dBin pIx (dVar 8) (dC (.int 0))) (dBin pIx (dVar 9) (dC (.int 0))))))) (dExpr (dMt pAppend (dVar 4) (aCons (dPrim pTup (aCons (dVar 5) (aCons (dVar 6) aNil))) aNil))) dNext)))) dNext)))
  (dRet (dVar 4)))))
def F_law_pairs : PL := runF 4 11 b_law_pairs
def b_law_right : DS := (dSeq (dSet 5 (dPrim (cP (pureOf F_law_pairs) []) (aCons (dVar 0) (aCons (dLc (iSeq (dBin pIx (dVar 1) (dC (.int 1)))) (gTupD 2 (gsCons (gSet 6) (gsCons (gSet 7) gsNil))) (dC (.bl true)) (dVar 6) [6, 7]) (aCons (dBin pIx (dVar 3) (dC (.int 0))) (aCons (dVar 4) aNil))))))
  (dSeq (dIfS (dOr (dBin pIx (dVar 3) (dC (.int 2))) (dBin (pEq false) (dVar 5) (dPrim pLst aNil))) (dRet (dBin (pIs false) (dVar 2) (dC .non))) dNext)
  (dSeq (dIfS (dOr (dNot (dIsi .list (dVar 2))) (dOr (dBin (pEq false) (dVar 2) (dPrim pLst aNil)) (dNot (dPrim pAll (aCons (dLc (iSeq (dVar 2)) (gSet 6) (dC (.bl true)) (dPrim (cP (pureOf F_law_whole) []) (aCons (dVar 6) aNil)) [6]) aNil))))) (dRet (dC (.bl false))) dNext)
  (dRet (dAnd (dBin pInL (dPrim pTup (aCons (dBin pIx (dVar 2) (dC (.int 0))) (aCons (dBin pIx (dVar 2) (dUn pNeg (dC (.int 1)))) aNil))) (dVar 5)) (dBin (pEq false) (dVar 2) (dLstRg2 (dBin pIx (dVar 2) (dC (.int 0))) (dBin pAdd (dBin pIx (dVar 2) (dUn pNeg (dC (.int 1)))) (dC (.int 1))))))))))
def F_law_right : PL := runF 5 8 b_law_right
def b_law : DS := (dSeq (dAsg (dPrim (cP (pureOf F_law_program) []) (aCons (dVar 0) aNil)) (gTupD 2 (gsCons (gSet 3) (gsCons (gSet 4) gsNil))))
  (dSeq (dSet 1 (dPrim (cP (pureOf F_law_cutting) []) (aCons (dVar 0) (aCons (dVar 3) (aCons (dVar 4) aNil)))))
  (dSeq (dSet 2 (dBin pAdd (dLc (iSeq (dBin pIx (dVar 3) (dC (.int 0)))) (gSet 5) (dC (.bl true)) (dPrim pTup (aCons (dVar 5) (aCons (dC (.bl false)) aNil))) [5]) (dLc (iSeq (dBin pIx (dVar 3) (dC (.int 1)))) (gSet 5) (dC (.bl true)) (dPrim pTup (aCons (dVar 5) (aCons (dC (.bl true)) aNil))) [5])))
  (dSeq (dIfS (dBin (pEq false) (dBin pMod (dPrim (cP (pureOf F_law_cell_at) []) (aCons (dVar 0) (aCons (dC (.int 4)) aNil))) (dC (.int 2))) (dC (.int 1))) (dSet 2 (dLstRev (dVar 2))) dNext)
  (dSeq (dFor (iSeq (dVar 2)) (gTupD 2 (gsCons (gSet 5) (gsCons (gSet 6) gsNil))) (dSeq (dSet 7 (dPrim (cS F_spoilt []) (aCons (dVar 3) (aCons (dVar 1) (aCons (dBin pIx (dVar 5) (dC (.int 0))) aNil)))))
  (dSeq (dIfS (dNot (dPrim (cP (pureOf F_law_right) []) (aCons (dBin pIx (dVar 3) (dC (.int 2))) (aCons (dVar 1) (aCons (dVar 7) (aCons (dVar 5) (aCons (dVar 6) aNil))))))) (dRet (dC (.bl false))) dNext)
  (dSeq (dIfS (dBin (pIs true) (dVar 7) (dC .non)) (dExpr (dMt pAppend (dVar 7) (aCons (dC (.int 0)) aNil))) dNext)
  (dIfS (dNot (dPrim (cP (pureOf F_law_right) []) (aCons (dBin pIx (dVar 3) (dC (.int 2))) (aCons (dVar 1) (aCons (dPrim (cS F_spoilt []) (aCons (dVar 3) (aCons (dVar 1) (aCons (dBin pIx (dVar 5) (dC (.int 0))) aNil)))) (aCons (dVar 5) (aCons (dVar 6) aNil))))))) (dRet (dC (.bl false))) dNext)))))
  (dRet (dAnd (dBin (pEq false) (dVar 3) (dBin pIx (dPrim (cP (pureOf F_law_program) []) (aCons (dVar 0) aNil)) (dC (.int 0)))) (dBin (pEq false) (dVar 1) (dPrim (cP (pureOf F_law_cutting) []) (aCons (dVar 0) (aCons (dVar 3) (aCons (dVar 4) aNil))))))))))))
def F_law : PL := runF 1 8 b_law
/-! ### facts of the head -/
def d_ways_of : He.DefD := ⟨("ways_of", none), "ways_of", "ways_of", defArgs s_ways_of, defBody s_ways_of, defScope s_ways_of, [], []⟩
def d_ways : He.DefD := ⟨("ways", none), "ways", "ways", defArgs s_ways, defBody s_ways, defScope s_ways, [], []⟩
def d_place_rows : He.DefD := ⟨("place_rows", none), "place_rows", "place_rows", defArgs s_place_rows, defBody s_place_rows, defScope s_place_rows, [], []⟩
def d_may_spoil : He.DefD := ⟨("may_spoil", none), "may_spoil", "may_spoil", defArgs s_may_spoil, defBody s_may_spoil, defScope s_may_spoil, [], []⟩
def d_touch : He.DefD := ⟨("touch", none), "touch", "touch", defArgs s_touch, defBody s_touch, defScope s_touch, [], []⟩
def d_behind : He.DefD := ⟨("behind", none), "behind", "behind", defArgs s_behind, defBody s_behind, defScope s_behind, [], []⟩
def d_led_by : He.DefD := ⟨("led_by", none), "led_by", "led_by", defArgs s_led_by, defBody s_led_by, defScope s_led_by, [], []⟩
def d_spoilt : He.DefD := ⟨("spoilt", none), "spoilt", "spoilt", defArgs s_spoilt, defBody s_spoilt, defScope s_spoilt, [], []⟩
def d_law_cell_at : He.DefD := ⟨("_law_cell_at", none), "_law_cell_at", "_law_cell_at", defArgs s_law_cell_at, defBody s_law_cell_at, defScope s_law_cell_at, [], []⟩
def d_law_names : He.DefD := ⟨("_law_names", none), "_law_names", "_law_names", defArgs s_law_names, defBody s_law_names, defScope s_law_names, [], []⟩
def d_law_whole : He.DefD := ⟨("_law_whole", none), "_law_whole", "_law_whole", defArgs s_law_whole, defBody s_law_whole, defScope s_law_whole, [], []⟩
def d_law_cutting : He.DefD := ⟨("_law_cutting", none), "_law_cutting", "_law_cutting", defArgs s_law_cutting, defBody s_law_cutting, defScope s_law_cutting, [], []⟩
def d_law_program : He.DefD := ⟨("_law_program", none), "_law_program", "_law_program", defArgs s_law_program, defBody s_law_program, defScope s_law_program, [], []⟩
def d_law_pairs : He.DefD := ⟨("_law_pairs", none), "_law_pairs", "_law_pairs", defArgs s_law_pairs, defBody s_law_pairs, defScope s_law_pairs, [], []⟩
def d_law_right : He.DefD := ⟨("_law_right", none), "_law_right", "_law_right", defArgs s_law_right, defBody s_law_right, defScope s_law_right, [], []⟩
def d_law : He.DefD := ⟨("law", none), "law", "law", defArgs s_law, defBody s_law, defScope s_law, [], []⟩
def fn0 : List He.DefD := [d_ways_of, d_ways, d_place_rows, d_may_spoil, d_touch, d_behind, d_led_by, d_spoilt, d_law_cell_at, d_law_names, d_law_whole, d_law_cutting, d_law_program, d_law_pairs, d_law_right, d_law]
def fn : List He.DefD := fn0
def fac0 : List He.Fa := [.glo "ways_of", .glo "ways", .glo "place_rows", .glo "may_spoil", .glo "touch", .glo "behind", .glo "led_by", .glo "spoilt", .glo "_law_cell_at", .glo "_law_names", .glo "_law_whole", .glo "_law_cutting", .glo "_law_program", .glo "_law_pairs", .glo "_law_right", .glo "law", .glo "TOUCHES"]
def fac : List He.Fa := fac0
def fa : List He.Fa := fac ++ frees
def ts : List He.Tab := [(fun K => He.ga K "TOUCHES", ["load", "store", "take", "lay"])]
def ex (K : PySem.W.Frag) : Bool := He.valsB K (He.ga K "TOUCHES") t_TOUCHES
abbrev Fx (w : World) (K : PySem.W.Frag) (mg : Str → Option Value) : Prop := FactsT fa fn ts ex w K mg
section
variable {K : PySem.W.Frag} {mg : Str → Option Value} {P : Program} {w : World} {base : Heap}
theorem Fx.tb (Y : Fx w K mg) : TB mg := Y.tb0 ⟨fac, rfl⟩
theorem Fx.tab_TOUCHES (Y : Fx w K mg) : TabC K w mg "TOUCHES" t_TOUCHES := tab_of (Y.glo 16) (says_tab Y.t 0) (show ex K = true from Y.e)
theorem sc_ways_of : FnScope ["row", "at"] ["row", "at"] (defScope s_ways_of) := ⟨rfl, rfl, rfl, by decide +kernel, rfl, by decide +kernel, by decide +kernel⟩
theorem ok_ways_of_fn {f : Addr} {fd : FuncData} (FD : FunD K d_ways_of.name d_ways_of.qual d_ways_of.params d_ways_of.body d_ways_of.scope (He.DefD.dvs K d_ways_of) (He.DefD.kws K d_ways_of) f fd) (Y : Fx w K mg) : FnOk P w K mg base CX0 1 f fd ["row", "at"] (spS K 2 F_ways_of) := by
  refine fn_ok FD sc_ways_of fun cdv A outer s H E hr => ?_
  exact (sds_cons (sd_if (td_eq hr (ed_ix hr (ed_var (pv 0)) ed_int (fun _ _ => rfl)) ed_str) (sds_one (sd_ret (ed_tup ad_nil))) sds_nil)
  (sds_cons (sd_if (td_eq hr (ed_ix hr (ed_var (pv 0)) ed_int (fun _ _ => rfl)) ed_str) (sds_one (sd_ret (ed_tup (ad_cons (ed_ix hr (ed_var (pv 0)) ed_int (fun _ _ => rfl)) ad_nil)))) sds_nil)
  (sds_cons (sd_if (td_eq hr (ed_ix hr (ed_var (pv 0)) ed_int (fun _ _ => rfl)) ed_str) (sds_one (sd_ret (ed_tup (ad_cons (ed_ix hr (ed_var (pv 0)) ed_int (fun _ _ => rfl)) (ad_cons (ed_add (ed_var (pv 1)) ed_int) ad_nil))))) sds_nil)
  (sds_one (sd_ret (ed_tup (ad_cons (ed_add (ed_var (pv 1)) ed_int) ad_nil)))))))
theorem ok_ways_of (Y : Fx w K mg) : FnC P w K mg base "ways_of" 1 ["row", "at"] [] F_ways_of := by
  obtain ⟨fd, FD⟩ := Y.c.def_ 0 (d := d_ways_of) rfl
  exact FnC.of FD (Y.glo 0) (ok_ways_of_fn FD Y) fun _ _ _ _ _ _ us hl => match us, hl with | [_, _], _ => rfl
theorem sc_ways : FnScope ["program", "at", "row"] ["program"] (defScope s_ways) := ⟨rfl, rfl, rfl, by decide +kernel, rfl, by decide +kernel, by decide +kernel⟩
theorem ok_ways_fn {f : Addr} {fd : FuncData} (FD : FunD K d_ways.name d_ways.qual d_ways.params d_ways.body d_ways.scope (He.DefD.dvs K d_ways) (He.DefD.kws K d_ways) f fd) (Y : Fx w K mg) : FnOk P w K mg base CX0 2 f fd ["program"] (spS K 1 F_ways) := by
  refine fn_ok FD sc_ways fun cdv A outer s H E hr => ?_
  exact (sds_one (sd_ret (ed_lc (pe_lc (own := [("at", 1), ("row", 2)]) rfl sc_ways.nd (Dn.ID.pi (id_enum2 (ad_cons (ed_ix hr (ed_var (pv 0)) ed_int (fun _ _ => rfl)) ad_nil) (fun ha => pi_enum (by rfl) Y.tb.enumerate ha) (fun ha => pi_enumT (by rfl) Y.tb.enumerate ha))) (blkOk_by (by rfl)) (fun _ _ _ _ _ => (pg_tup rfl (pgs_cons (pg_name (i := 1) sc_ways.nd rfl (by first | exact .inl rfl | exact .inr rfl)) (pgs_cons (pg_name (i := 2) sc_ways.nd rfl (by first | exact .inl rfl | exact .inr rfl)) pgs_nil)))) (fun _ _ _ _ _ => pts_nil) (fun _ _ _ _ _ => (ED.pe (ed_callP (ok_ways_of Y) rfl hr (by decide) (by rfl) dd0 (ad_cons (ed_var (pv 2)) (ad_cons (ed_var (pv 1)) ad_nil)))))) (gw_tup (gws_cons (gw_name (by decide)) (gws_cons (gw_name (by decide)) gws_nil))) yes_of)))
theorem ok_ways (Y : Fx w K mg) : FnC P w K mg base "ways" 2 ["program"] [] F_ways := by
  obtain ⟨fd, FD⟩ := Y.c.def_ 1 (d := d_ways) rfl
  exact FnC.of FD (Y.glo 1) (ok_ways_fn FD Y) fun _ _ _ _ _ _ us hl => match us, hl with | [_], _ => rfl
theorem sc_place_rows : FnScope ["code", "row", "boxes"] ["code"] (defScope s_place_rows) := ⟨rfl, rfl, rfl, by decide +kernel, rfl, by decide +kernel, by decide +kernel⟩
theorem ok_place_rows_fn {f : Addr} {fd : FuncData} (FD : FunD K d_place_rows.name d_place_rows.qual d_place_rows.params d_place_rows.body d_place_rows.scope (He.DefD.dvs K d_place_rows) (He.DefD.kws K d_place_rows) f fd) (Y : Fx w K mg) : FnOk P w K mg base CX0 1 f fd ["code"] (spS K 1 F_place_rows) := by
  refine fn_ok FD sc_place_rows fun cdv A outer s H E hr => ?_
  exact (sds_one (sd_ret (ed_add (ed_lst (ad_cons ed_int ad_nil)) (ed_lc (pe_lc (own := [("row", 1), ("boxes", 2)]) rfl sc_place_rows.nd (Dn.ID.pi (id_seq (ed_ix hr (ed_var (pv 0)) ed_int (fun _ _ => rfl)))) (blkOk_by (by rfl)) (fun _ _ _ _ _ => (pg_tup rfl (pgs_cons (pg_name (i := 1) sc_place_rows.nd rfl (by first | exact .inl rfl | exact .inr rfl)) (pgs_cons (pg_name (i := 2) sc_place_rows.nd rfl (by first | exact .inl rfl | exact .inr rfl)) pgs_nil)))) (fun _ _ _ _ _ => pts_nil) (fun _ _ _ _ _ => (ED.pe (ed_var (pv 1))))) (gw_tup (gws_cons (gw_name (by decide)) (gws_cons (gw_name (by decide)) gws_nil))) yes_of))))
theorem ok_place_rows (Y : Fx w K mg) : FnC P w K mg base "place_rows" 1 ["code"] [] F_place_rows := by
  obtain ⟨fd, FD⟩ := Y.c.def_ 2 (d := d_place_rows) rfl
  exact FnC.of FD (Y.glo 2) (ok_place_rows_fn FD Y) fun _ _ _ _ _ _ us hl => match us, hl with | [_], _ => rfl
theorem sc_may_spoil : FnScope ["program", "name", "told"] ["program", "name"] (defScope s_may_spoil) := ⟨rfl, rfl, rfl, by decide +kernel, rfl, by decide +kernel, by decide +kernel⟩
theorem ok_may_spoil_fn {f : Addr} {fd : FuncData} (FD : FunD K d_may_spoil.name d_may_spoil.qual d_may_spoil.params d_may_spoil.body d_may_spoil.scope (He.DefD.dvs K d_may_spoil) (He.DefD.kws K d_may_spoil) f fd) (Y : Fx w K mg) : FnOk P w K mg base CX0 1 f fd ["program", "name"] (spS K 2 F_may_spoil) := by
  refine fn_ok FD sc_may_spoil fun cdv A outer s H E hr => ?_
  exact (sds_cons (sd_for (ps_for PassesOwn.never rfl (Dn.ID.pi (id_seq (ed_add (ed_ix hr (ed_var (pv 0)) ed_int (fun _ _ => rfl)) (ed_ix hr (ed_var (pv 0)) ed_int (fun _ _ => rfl))))) (GD.pg (gd_name (pg_name (i := 2) sc_may_spoil.nd rfl (by first | exact .inl rfl | exact .inr rfl)))) (SDs.ps (sds_one (sd_if (td_eq hr (ed_ix hr (ed_var (pv 2)) ed_int (fun _ _ => rfl)) (ed_var (pv 1))) (sds_one (sd_ret (ed_not (ed_ix hr (ed_var (pv 2)) ed_int (fun _ _ => rfl))))) sds_nil)))))
  (sds_one (sd_ret ed_bl)))
theorem ok_may_spoil (Y : Fx w K mg) : FnC P w K mg base "may_spoil" 1 ["program", "name"] [] F_may_spoil := by
  obtain ⟨fd, FD⟩ := Y.c.def_ 3 (d := d_may_spoil) rfl
  exact FnC.of FD (Y.glo 3) (ok_may_spoil_fn FD Y) fun _ _ _ _ _ _ us hl => match us, hl with | [_, _], _ => rfl
theorem sc_touch : FnScope ["row", "name"] ["row", "name"] (defScope s_touch) := ⟨rfl, rfl, rfl, by decide +kernel, rfl, by decide +kernel, by decide +kernel⟩
theorem ok_touch_fn {f : Addr} {fd : FuncData} (FD : FunD K d_touch.name d_touch.qual d_touch.params d_touch.body d_touch.scope (He.DefD.dvs K d_touch) (He.DefD.kws K d_touch) f fd) (Y : Fx w K mg) : FnOk P w K mg base CX0 1 f fd ["row", "name"] (spS K 2 F_touch) := by
  refine fn_ok FD sc_touch fun cdv A outer s H E hr => ?_
  exact (sds_cons (sd_if (TDW.td (tw_and (td_tabIn Y.tab_TOUCHES rfl (ed_ix hr (ed_var (pv 0)) ed_int (fun _ _ => rfl)) rfl) (tw_and1 (td_eq hr (ed_ix hr (ed_var (pv 0)) (ed_tabIx Y.tab_TOUCHES rfl (ed_ix hr (ed_var (pv 0)) ed_int (fun _ _ => rfl)) (fun _ _ => rfl)) (fun _ _ => rfl)) (ed_var (pv 1)))))) (sds_one (sd_ret (ed_ix hr (ed_var (pv 0)) ed_int (fun _ _ => rfl)))) sds_nil)
  (sds_one (sd_ret ed_str)))
theorem ok_touch (Y : Fx w K mg) : FnC P w K mg base "touch" 1 ["row", "name"] [] F_touch := by
  obtain ⟨fd, FD⟩ := Y.c.def_ 4 (d := d_touch) rfl
  exact FnC.of FD (Y.glo 4) (ok_touch_fn FD Y) fun _ _ _ _ _ _ us hl => match us, hl with | [_, _], _ => rfl
theorem sc_behind : FnScope ["deed", "seen"] ["deed", "seen"] (defScope s_behind) := ⟨rfl, rfl, rfl, by decide +kernel, rfl, by decide +kernel, by decide +kernel⟩
theorem ok_behind_fn {f : Addr} {fd : FuncData} (FD : FunD K d_behind.name d_behind.qual d_behind.params d_behind.body d_behind.scope (He.DefD.dvs K d_behind) (He.DefD.kws K d_behind) f fd) (Y : Fx w K mg) : FnOk P w K mg base CX0 1 f fd ["deed", "seen"] (spS K 2 F_behind) := by
  refine fn_ok FD sc_behind fun cdv A outer s H E hr => ?_
  exact (sds_cons (sd_if (TDW.td (tw_and (td_eq hr (ed_var (pv 0)) ed_str) (tw_and1 (td_not (td_val (ed_var (pv 1))))))) (sds_one (sd_ret ed_non)) sds_nil)
  (sds_one (sd_ret (ed_or (ed_var (pv 1)) (ed_or (ed_eq hr (ed_var (pv 0)) ed_str) (ed_one (ed_eq hr (ed_var (pv 0)) ed_str)))))))
theorem ok_behind (Y : Fx w K mg) : FnC P w K mg base "behind" 1 ["deed", "seen"] [] F_behind := by
  obtain ⟨fd, FD⟩ := Y.c.def_ 5 (d := d_behind) rfl
  exact FnC.of FD (Y.glo 5) (ok_behind_fn FD Y) fun _ _ _ _ _ _ us hl => match us, hl with | [_, _], _ => rfl
theorem sc_led_by : FnScope ["came", "node", "found"] ["came", "node"] (defScope s_led_by) := ⟨rfl, rfl, rfl, by decide +kernel, rfl, by decide +kernel, by decide +kernel⟩
theorem ok_led_by_fn {f : Addr} {fd : FuncData} (FD : FunD K d_led_by.name d_led_by.qual d_led_by.params d_led_by.body d_led_by.scope (He.DefD.dvs K d_led_by) (He.DefD.kws K d_led_by) f fd) (Y : Fx w K mg) : FnOk P w K mg base CX0 1 f fd ["came", "node"] (spS K 2 F_led_by) := by
  refine fn_ok FD sc_led_by fun cdv A outer s H E hr => ?_
  exact (sds_cons (sd_set (ps_set (i := 2) sc_led_by.nd rfl (by first | exact .inl rfl | exact .inr rfl) (ED.pe (ed_lstM ad_nil))))
  (sds_cons (sd_while _ (ps_while PassesOwn.never (TD.pt (td_isnot (ed_var (pv 1)) ed_non)) (SDs.ps (sds_cons (sd_expr (ed_mt ok_append (ed_var (pv 2)) (ad_cons (ed_ix hr (ed_var (pv 1)) ed_int (fun _ _ => rfl)) ad_nil) (fun ho ha => pe_bm PySem.F.plainAttrs_list PySem.F.slot_list_append PySem.F.type_list_append mt_append ho ha)))
  (sds_one (sd_set (ps_set (i := 1) sc_led_by.nd rfl (by first | exact .inl rfl | exact .inr rfl) (ED.pe (ed_lfIx hr (ed_var (pv 0)) (ed_var (pv 1)) (fun _ _ => rfl))))))))))
  (sds_cons (sd_expr (ed_mt0 ok_reverse (ed_var (pv 2)) (fun ho => pe_bm0 PySem.F.plainAttrs_list PySem.F.slot_list_reverse PySem.F.type_list_reverse mt_reverse ho)))
  (sds_one (sd_ret (ed_var (pv 2)))))))
theorem ok_led_by (Y : Fx w K mg) : FnC P w K mg base "led_by" 1 ["came", "node"] [] F_led_by := by
  obtain ⟨fd, FD⟩ := Y.c.def_ 6 (d := d_led_by) rfl
  exact FnC.of FD (Y.glo 6) (ok_led_by_fn FD Y) fun _ _ _ _ _ _ us hl => match us, hl with | [_, _], _ => rfl
theorem sc_spoilt : FnScope ["program", "code", "name", "flow", "places", "keeps", "came", "row", "left", "node", "deed", "seen", "to"] ["program", "code", "name"] (defScope s_spoilt) := ⟨rfl, rfl, rfl, by decide +kernel, rfl, by decide +kernel, by decide +kernel⟩
theorem ok_spoilt_fn {f : Addr} {fd : FuncData} (FD : FunD K d_spoilt.name d_spoilt.qual d_spoilt.params d_spoilt.body d_spoilt.scope (He.DefD.dvs K d_spoilt) (He.DefD.kws K d_spoilt) f fd) (Y : Fx w K mg) : FnOk P w K mg base CX0 3 f fd ["program", "code", "name"] (spS K 3 F_spoilt) := by
  refine fn_ok FD sc_spoilt fun cdv A outer s H E hr => ?_
  exact (sds_cons (sd_if (td_not (td_val (ed_callP (ok_may_spoil Y) rfl hr (by decide) (by rfl) dd0 (ad_cons (ed_var (pv 0)) (ad_cons (ed_var (pv 2)) ad_nil))))) (sds_one (sd_ret ed_non)) sds_nil)
  (sds_cons (sd_set (ps_set (i := 3) sc_spoilt.nd rfl (by first | exact .inl rfl | exact .inr rfl) (ED.pe (ed_callP (ok_ways Y) rfl hr (by decide) (by rfl) dd0 (ad_cons (ed_var (pv 0)) ad_nil)))))
  (sds_cons (sd_set (ps_set (i := 4) sc_spoilt.nd rfl (by first | exact .inl rfl | exact .inr rfl) (ED.pe (ed_callP (ok_place_rows Y) rfl hr (by decide) (by rfl) dd0 (ad_cons (ed_var (pv 1)) ad_nil)))))
  (sds_cons (sd_set (ps_set (i := 5) sc_spoilt.nd rfl (by first | exact .inl rfl | exact .inr rfl) (ED.pe (ed_sl (ed_var (pv 4)) (od_some ed_int) od_none))))
  (sds_cons (sd_set (ps_set (i := 6) sc_spoilt.nd rfl (by first | exact .inl rfl | exact .inr rfl) (ED.pe ed_lfNew)))
  (sds_cons (sd_for (ps_for PassesOwn.never rfl (Dn.ID.pi (id_seq (ed_var (pv 4)))) (GD.pg (gd_name (pg_name (i := 7) sc_spoilt.nd rfl (by first | exact .inl rfl | exact .inr rfl)))) (SDs.ps (sds_one (sd_lfSub (ps_asg (ED.pe ed_non) (pg_sub (ED.pe (ed_var (pv 6))) (ED.pe (ed_tup (ad_cons (ed_var (pv 7)) (ad_cons ed_bl ad_nil)))) (set_lf (hu1 hr)))))))))
  (sds_cons (sd_set (ps_set (i := 8) sc_spoilt.nd rfl (by first | exact .inl rfl | exact .inr rfl) (ED.pe (ed_prim (fun ha => pe_callTy (x := "list") (call_lfList rfl) (by rfl) Y.tb.list boot_list ha) ok_lfList (ad_cons (ed_var (pv 6)) ad_nil)))))
  (sds_cons (sd_while _ (ps_while PassesOwn.never (TD.pt (td_gt (ed_prim (fun ha => pe_callB (x := "len") call_lenAll (by rfl) Y.tb.len boot_len ha) ok_len (ad_cons (ed_var (pv 8)) ad_nil)) ed_int)) (SDs.ps (sds_cons (sd_set (ps_set (i := 9) sc_spoilt.nd rfl (by first | exact .inl rfl | exact .inr rfl) (ED.pe (ed_mt ok_popAt (ed_var (pv 8)) (ad_cons ed_int ad_nil) (fun ho ha => pe_bm PySem.F.plainAttrs_list PySem.F.slot_list_pop PySem.F.type_list_pop mt_popAt ho ha)))))
  (sds_cons (sd_set (ps_set (i := 10) sc_spoilt.nd rfl (by first | exact .inl rfl | exact .inr rfl) (ED.pe (ed_callP (ok_touch Y) rfl hr (by decide) (by rfl) dd0 (ad_cons (ed_ix hr (ed_ix hr (ed_var (pv 0)) ed_int (fun _ _ => rfl)) (ed_ix hr (ed_var (pv 9)) ed_int (fun _ _ => rfl)) (fun _ _ => rfl)) (ad_cons (ed_var (pv 2)) ad_nil))))))
  (sds_cons (sd_if (TDW.td (tw_and (td_val (ed_ix hr (ed_var (pv 9)) ed_int (fun _ _ => rfl))) (tw_and1 (td_in hr (ed_var (pv 10)) (ed_tup (ad_cons ed_str (ad_cons ed_str ad_nil))) rfl)))) (sds_one (sd_ret (ed_callS (ok_led_by Y) rfl hr (by decide) (by rfl) dd0 (ad_cons (ed_var (pv 6)) (ad_cons (ed_var (pv 9)) ad_nil))))) sds_nil)
  (sds_cons (sd_set (ps_set (i := 11) sc_spoilt.nd rfl (by first | exact .inl rfl | exact .inr rfl) (ED.pe (ed_callP (ok_behind Y) rfl hr (by decide) (by rfl) dd0 (ad_cons (ed_var (pv 10)) (ad_cons (ed_ix hr (ed_var (pv 9)) ed_int (fun _ _ => rfl)) ad_nil))))))
  (sds_one (sd_if (td_isnot (ed_var (pv 11)) ed_non) (sds_one (sd_for (ps_for PassesOwn.never rfl (Dn.ID.pi (id_seq (ed_ix hr (ed_var (pv 3)) (ed_ix hr (ed_var (pv 9)) ed_int (fun _ _ => rfl)) (fun _ _ => rfl)))) (GD.pg (gd_name (pg_name (i := 12) sc_spoilt.nd rfl (by first | exact .inl rfl | exact .inr rfl)))) (SDs.ps (sds_one (sd_if (TDW.td (tw_and (td_notin hr (ed_var (pv 12)) (ed_var (pv 5)) rfl) (tw_and1 (td_cmp (op_lfNotIn (hu1 hr)) ok_lfIn (ed_tup (ad_cons (ed_var (pv 12)) (ad_cons (ed_var (pv 11)) ad_nil))) (ed_var (pv 6)) rfl)))) (sds_cons (sd_lfSub (ps_asg (ED.pe (ed_var (pv 9))) (pg_sub (ED.pe (ed_var (pv 6))) (ED.pe (ed_tup (ad_cons (ed_var (pv 12)) (ad_cons (ed_var (pv 11)) ad_nil)))) (set_lf (hu1 hr)))))
  (sds_one (sd_expr (ed_mt ok_append (ed_var (pv 8)) (ad_cons (ed_tup (ad_cons (ed_var (pv 12)) (ad_cons (ed_var (pv 11)) ad_nil))) ad_nil) (fun ho ha => pe_bm PySem.F.plainAttrs_list PySem.F.slot_list_append PySem.F.type_list_append mt_append ho ha))))) sds_nil)))))) sds_nil)))))))))
  (sds_one (sd_ret ed_non))))))))))
theorem ok_spoilt (Y : Fx w K mg) : FnC P w K mg base "spoilt" 3 ["program", "code", "name"] [] F_spoilt := by
  obtain ⟨fd, FD⟩ := Y.c.def_ 7 (d := d_spoilt) rfl
  exact FnC.of FD (Y.glo 7) (ok_spoilt_fn FD Y) fun _ _ _ _ _ _ us hl => match us, hl with | [_, _, _], _ => rfl
theorem sc_law_cell_at : FnScope ["_law_script", "_law_k"] ["_law_script", "_law_k"] (defScope s_law_cell_at) := ⟨rfl, rfl, rfl, by decide +kernel, rfl, by decide +kernel, by decide +kernel⟩
theorem ok_law_cell_at_fn {f : Addr} {fd : FuncData} (FD : FunD K d_law_cell_at.name d_law_cell_at.qual d_law_cell_at.params d_law_cell_at.body d_law_cell_at.scope (He.DefD.dvs K d_law_cell_at) (He.DefD.kws K d_law_cell_at) f fd) (Y : Fx w K mg) : FnOk P w K mg base CX0 1 f fd ["_law_script", "_law_k"] (spS K 2 F_law_cell_at) := by
  refine fn_ok FD sc_law_cell_at fun cdv A outer s H E hr => ?_
  exact (sds_cons (sd_if (td_lt (ed_var (pv 1)) (ed_prim (fun ha => pe_callB (x := "len") call_lenAll (by rfl) Y.tb.len boot_len ha) ok_len (ad_cons (ed_var (pv 0)) ad_nil))) (sds_one (sd_ret (ed_ix hr (ed_var (pv 0)) (ed_var (pv 1)) (fun _ _ => rfl)))) sds_nil)
  (sds_one (sd_ret ed_int)))
theorem ok_law_cell_at (Y : Fx w K mg) : FnC P w K mg base "_law_cell_at" 1 ["_law_script", "_law_k"] [] F_law_cell_at := by
  obtain ⟨fd, FD⟩ := Y.c.def_ 8 (d := d_law_cell_at) rfl
  exact FnC.of FD (Y.glo 8) (ok_law_cell_at_fn FD Y) fun _ _ _ _ _ _ us hl => match us, hl with | [_, _], _ => rfl
theorem sc_law_names : FnScope ["_law_cell", "_law_many", "_law_letters", "_law_size", "_law_word", "_law_at", "_law_k"] ["_law_cell", "_law_many"] (defScope s_law_names) := ⟨rfl, rfl, rfl, by decide +kernel, rfl, by decide +kernel, by decide +kernel⟩
theorem ok_law_names_fn {f : Addr} {fd : FuncData} (FD : FunD K d_law_names.name d_law_names.qual d_law_names.params d_law_names.body d_law_names.scope (He.DefD.dvs K d_law_names) (He.DefD.kws K d_law_names) f fd) (Y : Fx w K mg) : FnOk P w K mg base CX0 1 f fd ["_law_cell", "_law_many"] (spS K 2 F_law_names) := by
  refine fn_ok FD sc_law_names fun cdv A outer s H E hr => ?_
  exact (sds_cons (sd_set (ps_set (i := 2) sc_law_names.nd rfl (by first | exact .inl rfl | exact .inr rfl) (ED.pe ed_str)))
  (sds_cons (sd_set (ps_set (i := 3) sc_law_names.nd rfl (by first | exact .inl rfl | exact .inr rfl) (ED.pe (ed_mod (ed_var (pv 0)) ed_int))))
  (sds_cons (sd_set (ps_set (i := 4) sc_law_names.nd rfl (by first | exact .inl rfl | exact .inr rfl) (ED.pe (ed_m1 ok_join ed_str (ed_lc (pe_lc (own := [("_law_k", 6)]) rfl sc_law_names.nd (Dn.ID.pi (id_range1 (ad_cons (ed_var (pv 3)) ad_nil) (fun ha => pi_range1 (by rfl) Y.tb.range ha))) (blkOk_by (by rfl)) (fun _ _ _ _ _ => (pg_name (i := 6) sc_law_names.nd rfl (by first | exact .inl rfl | exact .inr rfl))) (fun _ _ _ _ _ => pts_nil) (fun _ _ _ _ _ => (ED.pe (ed_ix hr (ed_var (pv 2)) (ed_mod (ed_div (ed_mod (ed_mul (ed_var (pv 0)) (ed_add ed_int (ed_mul ed_int (ed_var (pv 6))))) ed_int) ed_int) ed_int) (fun _ _ => rfl))))) (gw_name (by decide)) yes_of) (fun ho hb => pe_join ho hb)))))
  (sds_cons (sd_set (ps_set (i := 5) sc_law_names.nd rfl (by first | exact .inl rfl | exact .inr rfl) (ED.pe (ed_mod (ed_div (ed_var (pv 0)) ed_int) (ed_add (ed_var (pv 3)) ed_int)))))
  (sds_one (sd_ret (ed_lc (pe_lc (own := [("_law_k", 6)]) rfl sc_law_names.nd (Dn.ID.pi (id_range1 (ad_cons (ed_var (pv 1)) ad_nil) (fun ha => pi_range1 (by rfl) Y.tb.range ha))) (blkOk_by (by rfl)) (fun _ _ _ _ _ => (pg_name (i := 6) sc_law_names.nd rfl (by first | exact .inl rfl | exact .inr rfl))) (fun _ _ _ _ _ => pts_nil) (fun _ _ _ _ _ => (ED.pe (ed_add (ed_add (ed_sl (ed_var (pv 4)) od_none (od_some (ed_var (pv 5)))) (ed_ix hr (ed_var (pv 2)) (ed_mod (ed_add (ed_div (ed_var (pv 0)) ed_int) (ed_var (pv 6))) ed_int) (fun _ _ => rfl))) (ed_sl (ed_var (pv 4)) (od_some (ed_var (pv 5))) od_none))))) (gw_name (by decide)) yes_of)))))))
theorem ok_law_names (Y : Fx w K mg) : FnC P w K mg base "_law_names" 1 ["_law_cell", "_law_many"] [] F_law_names := by
  obtain ⟨fd, FD⟩ := Y.c.def_ 9 (d := d_law_names) rfl
  exact FnC.of FD (Y.glo 9) (ok_law_names_fn FD Y) fun _ _ _ _ _ _ us hl => match us, hl with | [_, _], _ => rfl
theorem sc_law_whole : FnScope ["_law_found"] ["_law_found"] (defScope s_law_whole) := ⟨rfl, rfl, rfl, by decide +kernel, rfl, by decide +kernel, by decide +kernel⟩
theorem ok_law_whole_fn {f : Addr} {fd : FuncData} (FD : FunD K d_law_whole.name d_law_whole.qual d_law_whole.params d_law_whole.body d_law_whole.scope (He.DefD.dvs K d_law_whole) (He.DefD.kws K d_law_whole) f fd) (Y : Fx w K mg) : FnOk P w K mg base CX0 1 f fd ["_law_found"] (spS K 1 F_law_whole) := by
  refine fn_ok FD sc_law_whole fun cdv A outer s H E hr => ?_
  exact (sds_one (sd_ret (ed_and (e_isi (T7 := .int) Y.tb Y.tb.int (by decide) (by rfl) (by rfl) boot_int (ed_var (pv 0))) (ed_one (ed_not (e_isi (T7 := .bool) Y.tb Y.tb.bool (by decide) (by rfl) (by rfl) boot_bool (ed_var (pv 0))))))))
theorem ok_law_whole (Y : Fx w K mg) : FnC P w K mg base "_law_whole" 1 ["_law_found"] [] F_law_whole := by
  obtain ⟨fd, FD⟩ := Y.c.def_ 10 (d := d_law_whole) rfl
  exact FnC.of FD (Y.glo 10) (ok_law_whole_fn FD Y) fun _ _ _ _ _ _ us hl => match us, hl with | [_], _ => rfl
theorem sc_law_cutting : FnScope ["_law_script", "_law_program_here", "_law_boxes", "_law_share", "_law_keeps", "_law_at", "_law_begin", "_law_number"] ["_law_script", "_law_program_here", "_law_boxes"] (defScope s_law_cutting) := ⟨rfl, rfl, rfl, by decide +kernel, rfl, by decide +kernel, by decide +kernel⟩
theorem ok_law_cutting_fn {f : Addr} {fd : FuncData} (FD : FunD K d_law_cutting.name d_law_cutting.qual d_law_cutting.params d_law_cutting.body d_law_cutting.scope (He.DefD.dvs K d_law_cutting) (He.DefD.kws K d_law_cutting) f fd) (Y : Fx w K mg) : FnOk P w K mg base CX0 2 f fd ["_law_script", "_law_program_here", "_law_boxes"] (spS K 3 F_law_cutting) := by
  refine fn_ok FD sc_law_cutting fun cdv A outer s H E hr => ?_
  exact (sds_cons (sd_set (ps_set (i := 3) sc_law_cutting.nd rfl (by first | exact .inl rfl | exact .inr rfl) (ED.pe (ed_ix hr (ed_lst (ad_cons ed_int (ad_cons ed_int (ad_cons ed_int (ad_cons ed_int ad_nil))))) (ed_mod (ed_callP (ok_law_cell_at Y) rfl hr (by decide) (by rfl) dd0 (ad_cons (ed_var (pv 0)) (ad_cons ed_int ad_nil))) ed_int) (fun _ _ => rfl)))))
  (sds_cons (sd_set (ps_set (i := 2) sc_law_cutting.nd rfl (by first | exact .inl rfl | exact .inr rfl) (ED.pe (ed_sortSet Y.tb rfl rfl (ed_add (ed_var (pv 2)) (ed_lst (ad_cons (ed_ix hr (ed_ix hr (ed_ix hr (ed_var (pv 1)) ed_int (fun _ _ => rfl)) ed_int (fun _ _ => rfl)) ed_int (fun _ _ => rfl)) (ad_cons ed_str ad_nil))))))))
  (sds_cons (sd_set (ps_set (i := 4) sc_law_cutting.nd rfl (by first | exact .inl rfl | exact .inr rfl) (ED.pe (ed_lstM ad_nil))))
  (sds_cons (sd_for (ps_for PassesOwn.never rfl (Dn.ID.pi (id_range1 (ad_cons (ed_prim (fun ha => pe_callB (x := "len") call_lenAll (by rfl) Y.tb.len boot_len ha) ok_len (ad_cons (ed_ix hr (ed_var (pv 1)) ed_int (fun _ _ => rfl)) ad_nil)) ad_nil) (fun ha => pi_range1 (by rfl) Y.tb.range ha))) (GD.pg (gd_name (pg_name (i := 5) sc_law_cutting.nd rfl (by first | exact .inl rfl | exact .inr rfl)))) (SDs.ps (sds_cons (sd_set (ps_set (i := 7) sc_law_cutting.nd rfl (by first | exact .inl rfl | exact .inr rfl) (ED.pe (ed_mod (ed_mul (ed_add (ed_div (ed_callP (ok_law_cell_at Y) rfl hr (by decide) (by rfl) dd0 (ad_cons (ed_var (pv 0)) (ad_cons ed_int ad_nil))) ed_int) (ed_mul ed_int (ed_var (pv 5)))) ed_int) ed_int))))
  (sds_one (sd_if (td_eq hr (ed_mod (ed_div (ed_var (pv 7)) ed_int) (ed_var (pv 3))) ed_int) (sds_one (sd_expr (ed_mt ok_append (ed_var (pv 4)) (ad_cons (ed_tup (ad_cons (ed_var (pv 5)) (ad_cons (ed_prim (fun ha => pe_callTy (x := "tuple") call_tupAll (by rfl) Y.tb.tuple boot_tuple ha) ok_tuple (ad_cons (ed_prim (fun ha => pe_callB (x := "sorted") (call_sortedAll rfl) (by rfl) Y.tb.sorted boot_sorted ha) ok_sorted (ad_cons (ed_sl (ed_var (pv 2)) od_none (od_some (ed_mod (ed_div (ed_var (pv 7)) ed_int) (ed_add (ed_prim (fun ha => pe_callB (x := "len") call_lenAll (by rfl) Y.tb.len boot_len ha) ok_len (ad_cons (ed_var (pv 2)) ad_nil)) ed_int)))) ad_nil)) ad_nil)) ad_nil))) ad_nil) (fun ho ha => pe_bm PySem.F.plainAttrs_list PySem.F.slot_list_append PySem.F.type_list_append mt_append ho ha)))) sds_nil))))))
  (sds_cons (sd_set (ps_set (i := 6) sc_law_cutting.nd rfl (by first | exact .inl rfl | exact .inr rfl) (ED.pe (ed_prim (fun ha => pe_callTy (x := "tuple") call_tupAll (by rfl) Y.tb.tuple boot_tuple ha) ok_tuple (ad_cons (ed_prim (fun ha => pe_callB (x := "sorted") (call_sortedAll rfl) (by rfl) Y.tb.sorted boot_sorted ha) ok_sorted (ad_cons (ed_sl (ed_var (pv 2)) od_none (od_some (ed_mod (ed_div (ed_callP (ok_law_cell_at Y) rfl hr (by decide) (by rfl) dd0 (ad_cons (ed_var (pv 0)) (ad_cons ed_int ad_nil))) ed_int) (ed_add (ed_prim (fun ha => pe_callB (x := "len") call_lenAll (by rfl) Y.tb.len boot_len ha) ok_len (ad_cons (ed_var (pv 2)) ad_nil)) ed_int)))) ad_nil)) ad_nil)))))
  (sds_one (sd_ret (ed_tup (ad_cons (ed_var (pv 6)) (ad_cons (ed_prim (fun ha => pe_callTy (x := "tuple") call_tupAll (by rfl) Y.tb.tuple boot_tuple ha) ok_tuple (ad_cons (ed_var (pv 4)) ad_nil)) ad_nil))))))))))
theorem ok_law_cutting (Y : Fx w K mg) : FnC P w K mg base "_law_cutting" 2 ["_law_script", "_law_program_here", "_law_boxes"] [] F_law_cutting := by
  obtain ⟨fd, FD⟩ := Y.c.def_ 11 (d := d_law_cutting) rfl
  exact FnC.of FD (Y.glo 11) (ok_law_cutting_fn FD Y) fun _ _ _ _ _ _ us hl => match us, hl with | [_, _, _], _ => rfl
theorem sc_law_program : FnScope ["_law_script", "_law_things", "_law_bits", "_law_cells", "_law_shelves", "_law_boxes", "_law_rows", "_law_cell", "_law_number", "_law_x", "_law_name", "_law_some"] ["_law_script"] (defScope s_law_program) := ⟨rfl, rfl, rfl, by decide +kernel, rfl, by decide +kernel, by decide +kernel⟩
theorem ok_law_program_fn {f : Addr} {fd : FuncData} (FD : FunD K d_law_program.name d_law_program.qual d_law_program.params d_law_program.body d_law_program.scope (He.DefD.dvs K d_law_program) (He.DefD.kws K d_law_program) f fd) (Y : Fx w K mg) : FnOk P w K mg base CX0 2 f fd ["_law_script"] (spS K 1 F_law_program) := by
  refine fn_ok FD sc_law_program fun cdv A outer s H E hr => ?_
  exact (sds_cons (sd_set (ps_set (i := 1) sc_law_program.nd rfl (by first | exact .inl rfl | exact .inr rfl) (ED.pe (ed_callP (ok_law_names Y) rfl hr (by decide) (by rfl) dd0 (ad_cons (ed_callP (ok_law_cell_at Y) rfl hr (by decide) (by rfl) dd0 (ad_cons (ed_var (pv 0)) (ad_cons (ed_prim (fun ha => pe_callTy (x := "int") call_intAll (by rfl) Y.tb.int boot_int ha) ok_int (ad_cons (ed_gt (ed_mod (ed_callP (ok_law_cell_at Y) rfl hr (by decide) (by rfl) dd0 (ad_cons (ed_var (pv 0)) (ad_cons ed_int ad_nil))) ed_int) ed_int) ad_nil)) ad_nil))) (ad_cons ed_int ad_nil))))))
  (sds_cons (sd_set (ps_set (i := 2) sc_law_program.nd rfl (by first | exact .inl rfl | exact .inr rfl) (ED.pe (ed_callP (ok_law_cell_at Y) rfl hr (by decide) (by rfl) dd0 (ad_cons (ed_var (pv 0)) (ad_cons ed_int ad_nil))))))
  (sds_cons (sd_set (ps_set (i := 3) sc_law_program.nd rfl (by first | exact .inl rfl | exact .inr rfl) (ED.pe (ed_tup (ad_cons (ed_tup (ad_cons (ed_ix hr (ed_var (pv 1)) ed_int (fun _ _ => rfl)) (ad_cons ed_int (ad_cons (ed_eq hr (ed_mod (ed_var (pv 2)) ed_int) ed_int) ad_nil)))) (ad_cons (ed_tup (ad_cons (ed_ix hr (ed_var (pv 1)) ed_int (fun _ _ => rfl)) (ad_cons ed_int (ad_cons (ed_eq hr (ed_mod (ed_var (pv 2)) ed_int) ed_int) ad_nil)))) ad_nil))))))
  (sds_cons (sd_set (ps_set (i := 4) sc_law_program.nd rfl (by first | exact .inl rfl | exact .inr rfl) (ED.pe (ed_tup (ad_cons (ed_tup (ad_cons (ed_ix hr (ed_var (pv 1)) ed_int (fun _ _ => rfl)) (ad_cons (ed_add ed_int (ed_mod (ed_div (ed_var (pv 2)) ed_int) ed_int)) (ad_cons (ed_eq hr (ed_mod (ed_div (ed_var (pv 2)) ed_int) ed_int) ed_int) ad_nil)))) (ad_cons (ed_tup (ad_cons (ed_ix hr (ed_var (pv 1)) ed_int (fun _ _ => rfl)) (ad_cons ed_int (ad_cons (ed_eq hr (ed_mod (ed_div (ed_var (pv 2)) ed_int) ed_int) ed_int) ad_nil)))) ad_nil))))))
  (sds_cons (sd_set (ps_set (i := 5) sc_law_program.nd rfl (by first | exact .inl rfl | exact .inr rfl) (ED.pe (ed_callP (ok_law_names Y) rfl hr (by decide) (by rfl) dd0 (ad_cons (ed_callP (ok_law_cell_at Y) rfl hr (by decide) (by rfl) dd0 (ad_cons (ed_var (pv 0)) (ad_cons ed_int ad_nil))) (ad_cons (ed_add ed_int (ed_mod (ed_callP (ok_law_cell_at Y) rfl hr (by decide) (by rfl) dd0 (ad_cons (ed_var (pv 0)) (ad_cons ed_int ad_nil))) ed_int)) ad_nil))))))
  (sds_cons (sd_set (ps_set (i := 6) sc_law_program.nd rfl (by first | exact .inl rfl | exact .inr rfl) (ED.pe (ed_lstM ad_nil))))
  (sds_cons (sd_for (ps_for PassesOwn.never rfl (Dn.ID.pi (id_seq (ed_sl (ed_var (pv 0)) (od_some ed_int) (od_some ed_int)))) (GD.pg (gd_name (pg_name (i := 7) sc_law_program.nd rfl (by first | exact .inl rfl | exact .inr rfl)))) (SDs.ps (sds_cons (sd_set (ps_set (i := 8) sc_law_program.nd rfl (by first | exact .inl rfl | exact .inr rfl) (ED.pe (ed_div (ed_mod (ed_mul (ed_var (pv 7)) ed_int) ed_int) ed_int))))
  (sds_cons (sd_set (ps_set (i := 9) sc_law_program.nd rfl (by first | exact .inl rfl | exact .inr rfl) (ED.pe (ed_ix hr (ed_var (pv 5)) (ed_mod (ed_var (pv 8)) (ed_prim (fun ha => pe_callB (x := "len") call_lenAll (by rfl) Y.tb.len boot_len ha) ok_len (ad_cons (ed_var (pv 5)) ad_nil))) (fun _ _ => rfl)))))
  (sds_cons (sd_set (ps_set (i := 10) sc_law_program.nd rfl (by first | exact .inl rfl | exact .inr rfl) (ED.pe (ed_ix hr (ed_var (pv 1)) (ed_mod (ed_div (ed_var (pv 8)) ed_int) ed_int) (fun _ _ => rfl)))))
  (sds_cons (sd_set (ps_set (i := 11) sc_law_program.nd rfl (by first | exact .inl rfl | exact .inr rfl) (ED.pe (ed_lst (ad_cons (ed_tup (ad_cons ed_str (ad_cons (ed_var (pv 9)) (ad_cons (ed_var (pv 10)) ad_nil)))) (ad_cons (ed_tup (ad_cons ed_str (ad_cons (ed_var (pv 10)) (ad_cons (ed_var (pv 9)) ad_nil)))) (ad_cons (ed_tup (ad_cons ed_str (ad_cons (ed_var (pv 9)) (ad_cons (ed_ix hr (ed_var (pv 1)) (ed_add ed_int (ed_mod (ed_div (ed_var (pv 8)) ed_int) ed_int)) (fun _ _ => rfl)) (ad_cons (ed_mod (ed_div (ed_var (pv 8)) ed_int) ed_int) ad_nil))))) ad_nil)))))))
  (sds_cons (sd_set (ps_set (i := 11) sc_law_program.nd rfl (by first | exact .inl rfl | exact .inr rfl) (ED.pe (ed_add (ed_var (pv 11)) (ed_lst (ad_cons (ed_tup (ad_cons ed_str (ad_cons (ed_ix hr (ed_var (pv 1)) (ed_add ed_int (ed_mod (ed_div (ed_var (pv 8)) ed_int) ed_int)) (fun _ _ => rfl)) (ad_cons (ed_var (pv 9)) (ad_cons ed_int ad_nil))))) (ad_cons (ed_tup (ad_cons ed_str (ad_cons (ed_var (pv 9)) (ad_cons (ed_var (pv 8)) ad_nil)))) (ad_cons (ed_tup (ad_cons ed_str (ad_cons (ed_var (pv 9)) ad_nil))) ad_nil))))))))
  (sds_one (sd_expr (ed_mt ok_append (ed_var (pv 6)) (ad_cons (ed_ix hr (ed_var (pv 11)) (ed_ix hr (ed_lst (ad_cons ed_int (ad_cons ed_int (ad_cons ed_int (ad_cons ed_int (ad_cons ed_int (ad_cons ed_int (ad_cons ed_int (ad_cons ed_int ad_nil))))))))) (ed_mod (ed_var (pv 7)) ed_int) (fun _ _ => rfl)) (fun _ _ => rfl)) ad_nil) (fun ho ha => pe_bm PySem.F.plainAttrs_list PySem.F.slot_list_append PySem.F.type_list_append mt_append ho ha))))))))))))
  (sds_one (sd_ret (ed_tup (ad_cons (ed_tup (ad_cons (ed_var (pv 3)) (ad_cons (ed_var (pv 4)) (ad_cons (ed_prim (fun ha => pe_callTy (x := "tuple") call_tupAll (by rfl) Y.tb.tuple boot_tuple ha) ok_tuple (ad_cons (ed_add (ed_var (pv 6)) (ed_lst (ad_cons (ed_tup (ad_cons ed_str (ad_cons ed_int ad_nil))) ad_nil))) ad_nil)) ad_nil)))) (ad_cons (ed_var (pv 5)) ad_nil))))))))))))
theorem ok_law_program (Y : Fx w K mg) : FnC P w K mg base "_law_program" 2 ["_law_script"] [] F_law_program := by
  obtain ⟨fd, FD⟩ := Y.c.def_ 12 (d := d_law_program) rfl
  exact FnC.of FD (Y.glo 12) (ok_law_program_fn FD Y) fun _ _ _ _ _ _ us hl => match us, hl with | [_], _ => rfl
theorem sc_law_pairs : FnScope ["_law_rows", "_law_keeps", "_law_name", "_law_shelf", "_law_found", "_law_start", "_law_at", "_law_ahead", "_law_first", "_law_puts", "_law_k"] ["_law_rows", "_law_keeps", "_law_name", "_law_shelf"] (defScope s_law_pairs) := ⟨rfl, rfl, rfl, by decide +kernel, rfl, by decide +kernel, by decide +kernel⟩
theorem ok_law_pairs_fn {f : Addr} {fd : FuncData} (FD : FunD K d_law_pairs.name d_law_pairs.qual d_law_pairs.params d_law_pairs.body d_law_pairs.scope (He.DefD.dvs K d_law_pairs) (He.DefD.kws K d_law_pairs) f fd) (Y : Fx w K mg) : FnOk P w K mg base CX0 1 f fd ["_law_rows", "_law_keeps", "_law_name", "_law_shelf"] (spS K 4 F_law_pairs) := by
  refine fn_ok FD sc_law_pairs fun cdv A outer s H E hr => ?_
  exact (sds_cons (sd_set (ps_set (i := 4) sc_law_pairs.nd rfl (by first | exact .inl rfl | exact .inr rfl) (ED.pe (ed_lstM ad_nil))))
  (sds_cons (sd_set (ps_set (i := 5) sc_law_pairs.nd rfl (by first | exact .inl rfl | exact .inr rfl) (ED.pe ed_int)))
  (sds_cons (sd_for (ps_for PassesOwn.never rfl (Dn.ID.pi (id_range1 (ad_cons (ed_prim (fun ha => pe_callB (x := "len") call_lenAll (by rfl) Y.tb.len boot_len ha) ok_len (ad_cons (ed_var (pv 0)) ad_nil)) ad_nil) (fun ha => pi_range1 (by rfl) Y.tb.range ha))) (GD.pg (gd_name (pg_name (i := 6) sc_law_pairs.nd rfl (by first | exact .inl rfl | exact .inr rfl)))) (SDs.ps (sds_cons (sd_if (td_in hr (ed_var (pv 6)) (ed_var (pv 1)) rfl) (sds_one (sd_set (ps_set (i := 5) sc_law_pairs.nd rfl (by first | exact .inl rfl | exact .inr rfl) (ED.pe (ed_var (pv 6)))))) sds_nil)
  (sds_one (sd_if (TDW.td (tw_and (td_in hr (ed_ix hr (ed_ix hr (ed_var (pv 0)) (ed_var (pv 6)) (fun _ _ => rfl)) ed_int (fun _ _ => rfl)) (ed_tup (ad_cons ed_str (ad_cons ed_str ad_nil))) rfl) (tw_and1 (td_eq hr (ed_ix hr (ed_ix hr (ed_var (pv 0)) (ed_var (pv 6)) (fun _ _ => rfl)) ed_int (fun _ _ => rfl)) (ed_var (pv 2)))))) (sds_cons (sd_set (ps_set (i := 7) sc_law_pairs.nd rfl (by first | exact .inl rfl | exact .inr rfl) (ED.pe (ed_sl (ed_var (pv 0)) (od_some (ed_var (pv 5))) (od_some (ed_var (pv 6)))))))
  (sds_cons (sd_setLc (i := 8) (ps_setLc (own := [("_law_k", 10)]) rfl sc_law_pairs.nd rfl rfl rfl (Dn.ID.pi (id_range1 (ad_cons (ed_prim (fun ha => pe_callB (x := "len") call_lenAll (by rfl) Y.tb.len boot_len ha) ok_len (ad_cons (ed_var (pv 7)) ad_nil)) ad_nil) (fun ha => pi_range1 (by rfl) Y.tb.range ha))) (blkOk_by (by rfl)) (fun _ _ _ _ _ => (pg_name (i := 10) sc_law_pairs.nd rfl (by first | exact .inl rfl | exact .inr rfl))) (fun _ _ _ _ _ => (pts_one (TD.pt (TDW.td (tw_and (td_in hr (ed_ix hr (ed_ix hr (ed_var (pv 7)) (ed_var (pv 10)) (fun _ _ => rfl)) ed_int (fun _ _ => rfl)) (ed_tup (ad_cons ed_str (ad_cons ed_str ad_nil))) rfl) (tw_and1 (td_eq hr (ed_ix hr (ed_ix hr (ed_var (pv 7)) (ed_var (pv 10)) (fun _ _ => rfl)) ed_int (fun _ _ => rfl)) (ed_var (pv 2))))))))) (fun _ _ _ _ _ => (ED.pe (ed_var (pv 10))))) (gw_name (by decide)) same_of)
  (sds_cons (sd_setLc (i := 9) (ps_setLc (own := [("_law_k", 10)]) rfl sc_law_pairs.nd rfl rfl rfl (Dn.ID.pi (id_range1 (ad_cons (ed_prim (fun ha => pe_callB (x := "len") call_lenAll (by rfl) Y.tb.len boot_len ha) ok_len (ad_cons (ed_var (pv 7)) ad_nil)) ad_nil) (fun ha => pi_range1 (by rfl) Y.tb.range ha))) (blkOk_by (by rfl)) (fun _ _ _ _ _ => (pg_name (i := 10) sc_law_pairs.nd rfl (by first | exact .inl rfl | exact .inr rfl))) (fun _ _ _ _ _ => (pts_one (TD.pt (TDW.td (tw_and (td_in hr (ed_ix hr (ed_ix hr (ed_var (pv 7)) (ed_var (pv 10)) (fun _ _ => rfl)) ed_int (fun _ _ => rfl)) (ed_tup (ad_cons ed_str (ad_cons ed_str ad_nil))) rfl) (tw_and1 (td_eq hr (ed_ix hr (ed_ix hr (ed_var (pv 7)) (ed_var (pv 10)) (fun _ _ => rfl)) ed_int (fun _ _ => rfl)) (ed_var (pv 2))))))))) (fun _ _ _ _ _ => (ED.pe (ed_var (pv 10))))) (gw_name (by decide)) same_of)
  (sds_one (sd_if (TDW.td (tw_and (td_ne hr (ed_var (pv 8)) (ed_lst ad_nil)) (tw_and1 (TDW.td (tw_or (td_val (ed_var (pv 3))) (tw_or (td_eq hr (ed_var (pv 9)) (ed_lst ad_nil)) (tw_or1 (td_lt (ed_ix hr (ed_var (pv 8)) ed_int (fun _ _ => rfl)) (ed_ix hr (ed_var (pv 9)) ed_int (fun _ _ => rfl)))))))))) (sds_one (sd_expr (ed_mt ok_append (ed_var (pv 4)) (ad_cons (ed_tup (ad_cons (ed_var (pv 5)) (ad_cons (ed_var (pv 6)) ad_nil))) ad_nil) (fun ho ha => pe_bm PySem.F.plainAttrs_list PySem.F.slot_list_append PySem.F.type_list_append mt_append ho ha)))) sds_nil))))) sds_nil))))))
  (sds_one (sd_ret (ed_var (pv 4)))))))
theorem ok_law_pairs (Y : Fx w K mg) : FnC P w K mg base "_law_pairs" 1 ["_law_rows", "_law_keeps", "_law_name", "_law_shelf"] [] F_law_pairs := by
  obtain ⟨fd, FD⟩ := Y.c.def_ 13 (d := d_law_pairs) rfl
  exact FnC.of FD (Y.glo 13) (ok_law_pairs_fn FD Y) fun _ _ _ _ _ _ us hl => match us, hl with | [_, _, _, _], _ => rfl
theorem sc_law_right : FnScope ["_law_rows", "_law_code", "_law_found", "_law_told", "_law_shelf", "_law_pairs_here", "_law_at", "_law_boxes"] ["_law_rows", "_law_code", "_law_found", "_law_told", "_law_shelf"] (defScope s_law_right) := ⟨rfl, rfl, rfl, by decide +kernel, rfl, by decide +kernel, by decide +kernel⟩
theorem ok_law_right_fn {f : Addr} {fd : FuncData} (FD : FunD K d_law_right.name d_law_right.qual d_law_right.params d_law_right.body d_law_right.scope (He.DefD.dvs K d_law_right) (He.DefD.kws K d_law_right) f fd) (Y : Fx w K mg) : FnOk P w K mg base CX0 2 f fd ["_law_rows", "_law_code", "_law_found", "_law_told", "_law_shelf"] (spS K 5 F_law_right) := by
  refine fn_ok FD sc_law_right fun cdv A outer s H E hr => ?_
  exact (sds_cons (sd_set (ps_set (i := 5) sc_law_right.nd rfl (by first | exact .inl rfl | exact .inr rfl) (ED.pe (ed_callP (ok_law_pairs Y) rfl hr (by decide) (by rfl) dd0 (ad_cons (ed_var (pv 0)) (ad_cons (ed_lc (pe_lc (own := [("_law_at", 6), ("_law_boxes", 7)]) rfl sc_law_right.nd (Dn.ID.pi (id_seq (ed_ix hr (ed_var (pv 1)) ed_int (fun _ _ => rfl)))) (blkOk_by (by rfl)) (fun _ _ _ _ _ => (pg_tup rfl (pgs_cons (pg_name (i := 6) sc_law_right.nd rfl (by first | exact .inl rfl | exact .inr rfl)) (pgs_cons (pg_name (i := 7) sc_law_right.nd rfl (by first | exact .inl rfl | exact .inr rfl)) pgs_nil)))) (fun _ _ _ _ _ => pts_nil) (fun _ _ _ _ _ => (ED.pe (ed_var (pv 6))))) (gw_tup (gws_cons (gw_name (by decide)) (gws_cons (gw_name (by decide)) gws_nil))) yes_of) (ad_cons (ed_ix hr (ed_var (pv 3)) ed_int (fun _ _ => rfl)) (ad_cons (ed_var (pv 4)) ad_nil))))))))
  (sds_cons (sd_if (TDW.td (tw_or (td_val (ed_ix hr (ed_var (pv 3)) ed_int (fun _ _ => rfl))) (tw_or1 (td_eq hr (ed_var (pv 5)) (ed_lst ad_nil))))) (sds_one (sd_ret (ed_is (ed_var (pv 2)) ed_non))) sds_nil)
  (sds_cons (sd_if (TDW.td (tw_or (td_not (td_val (e_isi (T7 := .list) Y.tb Y.tb.list (by decide) (by rfl) (by rfl) boot_list (ed_var (pv 2))))) (tw_or (td_eq hr (ed_var (pv 2)) (ed_lst ad_nil)) (tw_or1 (td_not (td_val (ed_prim (fun ha => pe_callB (x := "all") (cr_all rfl) (by rfl) Y.tb.all boot_all ha) ok_all (ad_cons (ed_lc (pe_lc (own := [("_law_at", 6)]) rfl sc_law_right.nd (Dn.ID.pi (id_seq (ed_var (pv 2)))) (blkOk_by (by rfl)) (fun _ _ _ _ _ => (pg_name (i := 6) sc_law_right.nd rfl (by first | exact .inl rfl | exact .inr rfl))) (fun _ _ _ _ _ => pts_nil) (fun _ _ _ _ _ => (ED.pe (ed_callP (ok_law_whole Y) rfl hr (by decide) (by rfl) dd0 (ad_cons (ed_var (pv 6)) ad_nil))))) (gw_name (by decide)) yes_of) ad_nil)))))))) (sds_one (sd_ret ed_bl)) sds_nil)
  (sds_one (sd_ret (ed_and (ed_inL hr (ed_tup (ad_cons (ed_ix hr (ed_var (pv 2)) ed_int (fun _ _ => rfl)) (ad_cons (ed_ix hr (ed_var (pv 2)) (ed_neg ed_int) (fun _ _ => rfl)) ad_nil))) (ed_var (pv 5)) rfl) (ed_one (ed_eq hr (ed_var (pv 2)) (ed_lstRg2 (by rfl) (by rfl) Y.tb.list (by rfl) Y.tb.range (ed_ix hr (ed_var (pv 2)) ed_int (fun _ _ => rfl)) (ed_add (ed_ix hr (ed_var (pv 2)) (ed_neg ed_int) (fun _ _ => rfl)) ed_int))))))))))
theorem ok_law_right (Y : Fx w K mg) : FnC P w K mg base "_law_right" 2 ["_law_rows", "_law_code", "_law_found", "_law_told", "_law_shelf"] [] F_law_right := by
  obtain ⟨fd, FD⟩ := Y.c.def_ 14 (d := d_law_right) rfl
  exact FnC.of FD (Y.glo 14) (ok_law_right_fn FD Y) fun _ _ _ _ _ _ us hl => match us, hl with | [_, _, _, _, _], _ => rfl
theorem sc_law : FnScope ["_law_script", "_law_code", "_law_things", "_law_program_here", "_law_boxes", "_law_told", "_law_shelf", "_law_found"] ["_law_script"] (defScope s_law) := ⟨rfl, rfl, rfl, by decide +kernel, rfl, by decide +kernel, by decide +kernel⟩
theorem ok_law_fn {f : Addr} {fd : FuncData} (FD : FunD K d_law.name d_law.qual d_law.params d_law.body d_law.scope (He.DefD.dvs K d_law) (He.DefD.kws K d_law) f fd) (Y : Fx w K mg) : FnOk P w K mg base CX0 4 f fd ["_law_script"] (spS K 1 F_law) := by
  refine fn_ok FD sc_law fun cdv A outer s H E hr => ?_
  exact (sds_cons (sd_asg (ps_asg (ED.pe (ed_callP (ok_law_program Y) rfl hr (by decide) (by rfl) dd0 (ad_cons (ed_var (pv 0)) ad_nil))) (GD.pg (gd_t rfl (gds_c (gd_name (pg_name (i := 3) sc_law.nd rfl (by first | exact .inl rfl | exact .inr rfl))) (gds_c (gd_name (pg_name (i := 4) sc_law.nd rfl (by first | exact .inl rfl | exact .inr rfl))) gds_nil))))))
  (sds_cons (sd_set (ps_set (i := 1) sc_law.nd rfl (by first | exact .inl rfl | exact .inr rfl) (ED.pe (ed_callP (ok_law_cutting Y) rfl hr (by decide) (by rfl) dd0 (ad_cons (ed_var (pv 0)) (ad_cons (ed_var (pv 3)) (ad_cons (ed_var (pv 4)) ad_nil)))))))
  (sds_cons (sd_set (ps_set (i := 2) sc_law.nd rfl (by first | exact .inl rfl | exact .inr rfl) (ED.pe (ed_add (ed_lc (pe_lc (own := [("_law_told", 5)]) rfl sc_law.nd (Dn.ID.pi (id_seq (ed_ix hr (ed_var (pv 3)) ed_int (fun _ _ => rfl)))) (blkOk_by (by rfl)) (fun _ _ _ _ _ => (pg_name (i := 5) sc_law.nd rfl (by first | exact .inl rfl | exact .inr rfl))) (fun _ _ _ _ _ => pts_nil) (fun _ _ _ _ _ => (ED.pe (ed_tup (ad_cons (ed_var (pv 5)) (ad_cons ed_bl ad_nil)))))) (gw_name (by decide)) yes_of) (ed_lc (pe_lc (own := [("_law_told", 5)]) rfl sc_law.nd (Dn.ID.pi (id_seq (ed_ix hr (ed_var (pv 3)) ed_int (fun _ _ => rfl)))) (blkOk_by (by rfl)) (fun _ _ _ _ _ => (pg_name (i := 5) sc_law.nd rfl (by first | exact .inl rfl | exact .inr rfl))) (fun _ _ _ _ _ => pts_nil) (fun _ _ _ _ _ => (ED.pe (ed_tup (ad_cons (ed_var (pv 5)) (ad_cons ed_bl ad_nil)))))) (gw_name (by decide)) yes_of)))))
  (sds_cons (sd_if (td_eq hr (ed_mod (ed_callP (ok_law_cell_at Y) rfl hr (by decide) (by rfl) dd0 (ad_cons (ed_var (pv 0)) (ad_cons ed_int ad_nil))) ed_int) ed_int) (sds_one (sd_set (ps_set (i := 2) sc_law.nd rfl (by first | exact .inl rfl | exact .inr rfl) (ED.pe (ed_lstRev (by rfl) (by rfl) Y.tb.list (by rfl) Y.tb.reversed (ed_var (pv 2))))))) sds_nil)
  (sds_cons (sd_for (ps_for PassesOwn.never rfl (Dn.ID.pi (id_seq (ed_var (pv 2)))) (GD.pg (gd_t rfl (gds_c (gd_name (pg_name (i := 5) sc_law.nd rfl (by first | exact .inl rfl | exact .inr rfl))) (gds_c (gd_name (pg_name (i := 6) sc_law.nd rfl (by first | exact .inl rfl | exact .inr rfl))) gds_nil)))) (SDs.ps (sds_cons (sd_set (ps_set (i := 7) sc_law.nd rfl (by first | exact .inl rfl | exact .inr rfl) (ED.pe (ed_callS (ok_spoilt Y) rfl hr (by decide) (by rfl) dd0 (ad_cons (ed_var (pv 3)) (ad_cons (ed_var (pv 1)) (ad_cons (ed_ix hr (ed_var (pv 5)) ed_int (fun _ _ => rfl)) ad_nil)))))))
  (sds_cons (sd_if (td_not (td_val (ed_callP (ok_law_right Y) rfl hr (by decide) (by rfl) dd0 (ad_cons (ed_ix hr (ed_var (pv 3)) ed_int (fun _ _ => rfl)) (ad_cons (ed_var (pv 1)) (ad_cons (ed_var (pv 7)) (ad_cons (ed_var (pv 5)) (ad_cons (ed_var (pv 6)) ad_nil)))))))) (sds_one (sd_ret ed_bl)) sds_nil)
  (sds_cons (sd_if (td_isnot (ed_var (pv 7)) ed_non) (sds_one (sd_expr (ed_mt ok_append (ed_var (pv 7)) (ad_cons ed_int ad_nil) (fun ho ha => pe_bm PySem.F.plainAttrs_list PySem.F.slot_list_append PySem.F.type_list_append mt_append ho ha)))) sds_nil)
  (sds_one (sd_if (td_not (td_val (ed_callP (ok_law_right Y) rfl hr (by decide) (by rfl) dd0 (ad_cons (ed_ix hr (ed_var (pv 3)) ed_int (fun _ _ => rfl)) (ad_cons (ed_var (pv 1)) (ad_cons (ed_callS (ok_spoilt Y) rfl hr (by decide) (by rfl) dd0 (ad_cons (ed_var (pv 3)) (ad_cons (ed_var (pv 1)) (ad_cons (ed_ix hr (ed_var (pv 5)) ed_int (fun _ _ => rfl)) ad_nil)))) (ad_cons (ed_var (pv 5)) (ad_cons (ed_var (pv 6)) ad_nil)))))))) (sds_one (sd_ret ed_bl)) sds_nil))))))))
  (sds_one (sd_ret (ed_and (ed_eq hr (ed_var (pv 3)) (ed_ix hr (ed_callP (ok_law_program Y) rfl hr (by decide) (by rfl) dd0 (ad_cons (ed_var (pv 0)) ad_nil)) ed_int (fun _ _ => rfl))) (ed_one (ed_eq hr (ed_var (pv 1)) (ed_callP (ok_law_cutting Y) rfl hr (by decide) (by rfl) dd0 (ad_cons (ed_var (pv 0)) (ad_cons (ed_var (pv 3)) (ad_cons (ed_var (pv 4)) ad_nil))))))))))))))
end
end Lk33

namespace Lk33
open PySem PySem.Spec PyProof.Rows L2 Dn
/-! ### what rows read and set -/
def atomsL : PRow → List Atm
  | .copy _ a => [a]
  | .store _ a => [a]
  | .op _ _ a b => [a, b]
  | .take _ _ a => [a]
  | .lay _ a b => [a, b]
  | .say a => [a]
  | .ifr a _ => [a]
  | .endr a => [a]
  | _ => []
def addS (K : List Str) (x : Str) : List Str := if x ∈ K then K else K ++ [x]
def addA (K : List Str) : Atm → List Str
  | .n _ => K
  | .x s => addS K s
def rdL (r : PRow) : List Str := (atomsL r).foldl addA []
def givesL : PRow → Option Str
  | .copy x _ => some x
  | .op x _ _ _ => some x
  | .load x _ => some x
  | .take x _ _ => some x
  | .hear x => some x
  | _ => none
theorem addS_mem {K : List Str} {x y : Str} : y ∈ addS K x ↔ y ∈ K ∨ y = x := by
  unfold addS
  by_cases q : x ∈ K
  · rw [if_pos q]
    exact ⟨.inl, fun h => by
      rcases h with h | h
      · exact h
      · rw [h]
        exact q⟩
  · rw [if_neg q, List.mem_append, List.mem_singleton]
theorem addS_nodup {K : List Str} {x : Str} (h : K.Nodup) : (addS K x).Nodup := by
  unfold addS
  by_cases q : x ∈ K
  · rw [if_pos q]
    exact h
  · rw [if_neg q]
    exact List.nodup_append.mpr ⟨h, List.pairwise_singleton _ _, fun a ha b hb e => q (by rw [← List.mem_singleton.mp hb, ← e]; exact ha)⟩
theorem inD_strs {x : Str} : ∀ {K : List Str}, inD (.str x) (K.map DV.str) = decide (x ∈ K)
  | [] => rfl
  | y :: K => by
    have ih := inD_strs (x := x) (K := K)
    rw [List.map_cons]
    unfold inD at ih ⊢
    rw [List.any_cons, ih]
    by_cases q : x = y
    · subst q
      simp [eqF]
    · have q2 : ¬ y = x := fun e => q e.symm
      simp [eqF, q, q2]
end Lk33

namespace Lk33
open PySem PySem.Spec PyProof.Rows L2 Dn
/-! ### dicts of boxes -/
abbrev dkK (K : List Str) : List Key := K.map .inr
abbrev dkV (K : List Str) : List DV := K.map fun _ => .bl true
def dk (K : List Str) : Cell := .dik (dkK K) (dkV K)
/-! ### what is known of each row -/
section
variable {S0 : Sto} {H : List (List Str)} {i : Nat} {K : List Str}
theorem n_off {T : Sto} {k : Nat} : (S0 ++ T)[S0.length + k]? = T[k]? := by
  rw [List.getElem?_append_right (Nat.le_add_right _ _), Nat.add_sub_cancel_left]
theorem n_set {T : Sto} {k : Nat} {x : Cell} : (S0 ++ T).set (S0.length + k) x = S0 ++ T.set k x := by
  rw [List.set_append_right _ _ (Nat.le_add_right _ _), Nat.add_sub_cancel_left]
end
end Lk33

namespace Lk33
open PySem PySem.Spec PyProof.Rows L2 Dn
def moreL (g : Option Str) (Ka Kt : List Str) : List Str := Kt.filter fun b => !decide (b ∈ Ka) && decide (g ≠ some b)
section
variable {S0 : Sto} {H : List (List Str)} {P : DV} {rows : List PRow} {a t : Nat} {Ka Kt : List Str} {r : PRow}
end
end Lk33

namespace Lk33
open PySem PySem.Spec PyProof.Rows L2 Dn
/-! ### what is needed -/
inductive Need (rows : List PRow) : Nat → Str → Prop
  | here {i : Nat} {r : PRow} {b : Str} (h : rows[i]? = some r) (hb : b ∈ rdL r) : Need rows i b
  | on {i j : Nat} {r : PRow} {b : Str} (h : rows[i]? = some r) (hj : j ∈ r.led i) (hn : Need rows j b) (hg : givesL r ≠ some b) : Need rows i b
theorem Need.inBx {rows : List PRow} {bx : List Str} (hb : ∀ r ∈ rows, ∀ b ∈ rdL r, b ∈ bx) {i : Nat} {b : Str} (h : Need rows i b) : b ∈ bx := by
  induction h with
  | here h h2 => exact hb _ (List.mem_of_getElem? h) _ h2
  | on _ _ _ _ ih => exact ih
theorem nodup_len {α : Type} [DecidableEq α] : ∀ {l m : List α}, l.Nodup → (∀ x ∈ l, x ∈ m) → l.length ≤ m.length
  | [], _, _, _ => Nat.zero_le _
  | x :: l, m, h, hs => by
    rw [List.nodup_cons] at h
    have hx : x ∈ m := hs x List.mem_cons_self
    have ih := nodup_len (l := l) (m := m.erase x) h.2 fun y hy => (List.mem_erase_of_ne fun e => h.1 (by rw [← e]; exact hy)).mpr (hs y (List.mem_cons_of_mem _ hy))
    have hl := List.length_erase_of_mem hx
    have h0 : 0 < m.length := List.length_pos_of_mem hx
    rw [List.length_cons]
    omega
structure NI (rows : List PRow) (H : List (List Str)) : Prop where
  len : H.length = rows.length
  snd : ∀ (i : Nat) (K : List Str), H[i]? = some K → ∀ b ∈ K, Need rows i b
  rd : ∀ (i : Nat) (K : List Str) (r : PRow), H[i]? = some K → rows[i]? = some r → ∀ b ∈ rdL r, b ∈ K
  nd : ∀ (i : Nat) (K : List Str), H[i]? = some K → K.Nodup
def szH (H : List (List Str)) : Nat := (H.map List.length).sum
theorem sum_set : ∀ {H : List Nat} {i : Nat} {x y : Nat}, H[i]? = some x → (H.set i y).sum + x = H.sum + y
  | [], i, x, y, h => by simp at h
  | z :: H, 0, x, y, h => by
    have e : z = x := by simpa using h
    subst e
    simp only [List.set_cons_zero, List.sum_cons]
    omega
  | z :: H, i + 1, x, y, h => by
    have ih := sum_set (H := H) (i := i) (x := x) (y := y) (by simpa using h)
    simp only [List.set_cons_succ, List.sum_cons]
    omega
theorem sz_set {H : List (List Str)} {i : Nat} {K K' : List Str} (h : H[i]? = some K) : szH (H.set i K') + K.length = szH H + K'.length := by
  unfold szH
  rw [List.map_set]
  exact sum_set (by rw [List.getElem?_map, h] <;> rfl)
theorem sum_le {m : Nat} : ∀ {H : List Nat}, (∀ x ∈ H, x ≤ m) → H.sum ≤ H.length * m
  | [], _ => Nat.zero_le _
  | x :: H, h => by
    have ih := sum_le (H := H) fun y hy => h y (List.mem_cons_of_mem _ hy)
    have := h x List.mem_cons_self
    rw [List.sum_cons, List.length_cons, Nat.succ_mul]
    omega
theorem NI.le {rows : List PRow} {H : List (List Str)} {bx : List Str} (A : NI rows H) (hb : ∀ r ∈ rows, ∀ b ∈ rdL r, b ∈ bx) : (∀ (i : Nat) (K : List Str), H[i]? = some K → K.length ≤ bx.length) ∧ szH H ≤ rows.length * bx.length := by
  have h1 : ∀ (i : Nat) (K : List Str), H[i]? = some K → K.length ≤ bx.length := fun i K h => nodup_len (A.nd i K h) fun b hb' => (A.snd i K h b hb').inBx hb
  refine ⟨h1, ?_⟩
  have := sum_le (H := H.map List.length) (m := bx.length) fun x hx => by
    obtain ⟨K, hK, rfl⟩ := List.mem_map.mp hx
    obtain ⟨i, hi⟩ := List.getElem?_of_mem hK
    exact h1 i K hi
  rw [List.length_map, A.len] at this
  exact this
theorem foldS_mem {y : Str} : ∀ {bs : List Str} {K : List Str}, y ∈ bs.foldl addS K ↔ y ∈ K ∨ y ∈ bs
  | [], K => by simp
  | b :: bs, K => by
    rw [List.foldl_cons, foldS_mem, addS_mem, List.mem_cons, or_assoc]
theorem foldS_nodup : ∀ {bs : List Str} {K : List Str}, K.Nodup → (bs.foldl addS K).Nodup
  | [], K, h => h
  | b :: bs, K, h => foldS_nodup (bs := bs) (addS_nodup h)
theorem addS_ge {K : List Str} {b : Str} : K.length ≤ (addS K b).length := by
  unfold addS
  split
  · exact Nat.le_refl _
  · simp
theorem foldS_ge : ∀ {bs : List Str} {K : List Str}, K.length ≤ (bs.foldl addS K).length
  | [], K => Nat.le_refl _
  | b :: bs, K => Nat.le_trans addS_ge (foldS_ge (bs := bs) (K := addS K b))
theorem foldS_gt {bs : List Str} {K : List Str} (h : 0 < bs.length) (hb : ∀ b ∈ bs, b ∉ K) : K.length < (bs.foldl addS K).length := by
  match bs, h with
  | b :: bs, _ =>
    have e : addS K b = K ++ [b] := if_neg (hb b List.mem_cons_self)
    have := foldS_ge (bs := bs) (K := addS K b)
    rw [List.foldl_cons]
    rw [e] at this ⊢
    rw [List.length_append, List.length_singleton] at this
    omega
def Closed (rows : List PRow) (H : List (List Str)) (a t : Nat) : Prop := ∀ (r : PRow) (Ka Kt : List Str), rows[a]? = some r → H[a]? = some Ka → H[t]? = some Kt → ∀ b ∈ Kt, b ∈ Ka ∨ givesL r = some b
section
variable {rows : List PRow} {H H0 : List (List Str)} {a t : Nat} {Ka Kt : List Str} {r : PRow}
theorem more_mem {g : Option Str} {b : Str} : b ∈ moreL g Ka Kt ↔ b ∈ Kt ∧ b ∉ Ka ∧ g ≠ some b := by
  unfold moreL
  rw [List.mem_filter]
  simp
theorem NI.step (A : NI rows H) (ha : H[a]? = some Ka) (ht : H[t]? = some Kt) (hr : rows[a]? = some r) (hl : t ∈ r.led a) : NI rows (H.set a ((moreL (givesL r) Ka Kt).foldl addS Ka)) := by
  have hla := (List.getElem?_eq_some_iff.mp ha).1
  have get : ∀ (i : Nat) (K : List Str), (H.set a ((moreL (givesL r) Ka Kt).foldl addS Ka))[i]? = some K → (i = a ∧ K = (moreL (givesL r) Ka Kt).foldl addS Ka) ∨ (i ≠ a ∧ H[i]? = some K) := fun i K h => by
    by_cases q : a = i
    · subst q
      rw [List.getElem?_set_self hla] at h
      cases h
      exact .inl ⟨rfl, rfl⟩
    · rw [List.getElem?_set_ne q] at h
      exact .inr ⟨fun e => q e.symm, h⟩
  refine ⟨by rw [List.length_set, A.len], fun i K h b hb => ?_, fun i K r' h hr' b hb => ?_, fun i K h => ?_⟩
  · rcases get i K h with ⟨rfl, rfl⟩ | ⟨_, h⟩
    · rcases foldS_mem.mp hb with hb | hb
      · exact A.snd _ _ ha b hb
      · obtain ⟨h1, _, h3⟩ := more_mem.mp hb
        exact .on hr hl (A.snd _ _ ht b h1) h3
    · exact A.snd i K h b hb
  · rcases get i K h with ⟨rfl, rfl⟩ | ⟨_, h⟩
    · exact foldS_mem.mpr (.inl (A.rd _ _ _ ha hr' b hb))
    · exact A.rd i K r' h hr' b hb
  · rcases get i K h with ⟨rfl, rfl⟩ | ⟨_, h⟩
    · exact foldS_nodup (A.nd _ _ ha)
    · exact A.nd i K h
/-- how far a pass has come -/
structure PI (rows : List PRow) (H0 : List (List Str)) (D : Nat → Nat → Prop) (H : List (List Str)) (ag : Bool) : Prop where
  ni : NI rows H
  no : ag = false → H = H0 ∧ ∀ a t, D a t → Closed rows H0 a t
  yes : ag = true → szH H0 < szH H
  ge : szH H0 ≤ szH H
theorem PI.step {D : Nat → Nat → Prop} {ag : Bool} (A : PI rows H0 D H ag) (ha : H[a]? = some Ka) (ht : H[t]? = some Kt) (hr : rows[a]? = some r) (hl : t ∈ r.led a) :
    PI rows H0 (fun x y => D x y ∨ (x = a ∧ y = t)) (H.set a ((moreL (givesL r) Ka Kt).foldl addS Ka)) (ag || decide (0 < (moreL (givesL r) Ka Kt).length)) := by
  have hs := sz_set (K' := (moreL (givesL r) Ka Kt).foldl addS Ka) ha
  have hge := foldS_ge (bs := moreL (givesL r) Ka Kt) (K := Ka)
  refine ⟨A.ni.step ha ht hr hl, fun h => ?_, fun h => ?_, by have := A.ge; omega⟩
  · rw [Bool.or_eq_false_iff] at h
    obtain ⟨h1, h2⟩ := h
    have h2 : ¬ 0 < (moreL (givesL r) Ka Kt).length := of_decide_eq_false h2
    have e : moreL (givesL r) Ka Kt = [] := List.eq_nil_of_length_eq_zero (by omega)
    obtain ⟨k1, k2⟩ := A.no h1
    rw [e]
    refine ⟨?_, fun x y h => ?_⟩
    · have : H.set a Ka = H := by
        obtain ⟨h1, h2⟩ := List.getElem?_eq_some_iff.mp ha
        rw [← h2, List.set_getElem_self]
      show H.set a Ka = H0
      rw [this, k1]
    · rcases h with h | ⟨rfl, rfl⟩
      · exact k2 x y h
      · intro r' Ka' Kt' hr' ha' ht' b hb
        rw [← k1] at ha' ht'
        rw [ha] at ha'
        rw [ht] at ht'
        rw [hr] at hr'
        cases ha'
        cases ht'
        cases hr'
        by_cases q : b ∈ Ka
        · exact .inl q
        · by_cases q2 : givesL r = some b
          · exact .inr q2
          · have : b ∈ moreL (givesL r) Ka Kt := more_mem.mpr ⟨hb, q, q2⟩
            rw [e] at this
            cases this
  · have hge0 := A.ge
    cases hag : ag with
    | true =>
      have := A.yes hag
      omega
    | false =>
      rw [hag, Bool.false_or] at h
      have h := of_decide_eq_true h
      have := foldS_gt h fun b hb => (more_mem.mp hb).2.1
      omega
end
/-! ### a pass, and the passes -/
section
variable {S0 : Sto} {P : DV} {rows : List PRow} {bx : List Str} {H H0 : List (List Str)}
end
end Lk33

namespace Lk33
open PySem PySem.Spec PyProof.Rows L2 Dn
/-! ### ways -/
theorem nways_of (i : Nat) (r : PRow) : pureOf F_ways_of [r.d, .int i] = some (ledD i r) := by
  refine pureOf_of (S' := []) ?_ (by cases r <;> simp [ledD, PRow.led])
  unfold F_ways_of b_ways_of runF
  cases r <;> simp [PRow.d, ledD, PRow.led]
theorem nways_loop {x : Option DV} : ∀ (rows : List PRow) (k : Nat), lcL (gTupD 2 (gsCons (gSet 1) (gsCons (gSet 2) gsNil))) (dC (.bl true)) (dPrim (cP (pureOf F_ways_of) []) (aCons (dVar 2) (aCons (dVar 1) aNil))) [x, none, none] (enD k (rows.map PRow.d)) [] = some (rows.mapIdx fun i r => ledD (k + i) r, [])
  | [], k => rfl
  | r :: rows, k => by
    have ih := nways_loop (x := x) rows (k + 1)
    have hg : gTupD 2 (gsCons (gSet 1) (gsCons (gSet 2) gsNil)) (.tup [.int (k : Nat), r.d]) [x, none, none] [] = some ([x, some (.int (k : Nat)), some r.d], []) := rfl
    rw [List.map_cons]
    show lcL _ _ _ _ (DV.tup [.int (k : Nat), r.d] :: enD (k + 1) (rows.map PRow.d)) [] = _
    unfold lcL
    simp only [hg, v_c]
    have h1 : dPrim (cP (pureOf F_ways_of) []) (aCons (dVar 2) (aCons (dVar 1) aNil)) [x, some (.int (k : Nat)), some r.d] [] = some (ledD k r, []) := by
      simp [cpL_plain, PRow.plain_d, nways_of]
    simp only [h1, ih]
    rw [List.mapIdx_cons]
    have e : (fun i r => ledD (k + 1 + i) r) = fun i r => ledD (k + (i + 1)) r := by
      funext i r
      rw [show k + 1 + i = k + (i + 1) by omega]
    rw [e]
    rfl
theorem nleads_plain (rows : List PRow) : plainL (leadsD rows) = true := plainL_iff.mpr fun d h => by
  unfold leadsD at h
  obtain ⟨i, hi, rfl⟩ := List.mem_mapIdx.mp h
  unfold ledD
  exact plainL_iff.mpr fun d h => by
    obtain ⟨n, _, rfl⟩ := List.mem_map.mp h
    rfl
theorem nways_eq (c s : DV) (rows : List PRow) (hn : rows.length ≤ 1000) : pureOf F_ways [.tup [c, s, .tup (rows.map PRow.d)]] = some (.lst .own (leadsD rows)) := by
  refine pureOf_of (S' := []) ?_ (by rw [plain_own]; exact nleads_plain rows)
  have e := nways_loop (x := some (.tup [c, s, .tup (rows.map PRow.d)])) rows 0
  have hi : iEnum2 (aCons (dBin pIx (dVar 0) (dC (.int 2))) aNil) [some (.tup [c, s, .tup (rows.map PRow.d)]), none, none] [] = some (enD 0 (rows.map PRow.d), []) := rfl
  have hz : (rows.mapIdx fun i r => ledD (0 + i) r).length ≤ sizeLine := size_ok (by rw [List.length_mapIdx]; omega)
  have h := dLc_of (vs := [1, 2]) hi (by rw [show (dwipe [some (DV.tup [c, s, .tup (rows.map PRow.d)]), none, none] [1, 2]) = [some (DV.tup [c, s, .tup (rows.map PRow.d)]), none, none] from rfl]; exact e) hz
  have e2 : (rows.mapIdx fun i r => ledD (0 + i) r) = leadsD rows := by
    unfold leadsD
    congr
    funext i r
    rw [Nat.zero_add]
  rw [e2] at h
  unfold F_ways b_ways runF
  show (match (dRet _ [some (DV.tup [c, s, .tup (rows.map PRow.d)]), none, none] [] : Option Out) with | some (.rt d S') => some (d, S') | some (.nx _ S') => some (.non, S') | _ => none) = _
  rw [v_ret, h]
/-! ### begun -/
section
variable {S0 : Sto} {P : DV} {rows : List PRow} {bx : List Str}
/-! ### told -/
end
end Lk33

namespace Lk33
open PySem PySem.Spec PyProof.Rows L2 Dn
theorem at_cell {ns : List Int} {k : Nat} : pureOf F_law_cell_at [.lst .ext (ns.map DV.int), .int k] = some (.int (ns.getD k 0)) := by
  refine pureOf_of (S' := []) ?_ rfl
  by_cases h : k < ns.length
  · have h2 : (k : Int) < ns.length := by omega
    have e : (ns.map DV.int)[k]? = some (.int (ns.getD k 0)) := by
      rw [List.getElem?_map, List.getElem?_eq_getElem h, List.getD_eq_getElem?_getD, List.getElem?_eq_getElem h] <;> rfl
    simp [F_law_cell_at, b_law_cell_at, runF, pLen, asL, h2, Dn.ix_seq (atD_nat e)]
  · have h2 : ¬ (k : Int) < ns.length := by omega
    simp [F_law_cell_at, b_law_cell_at, runF, pLen, asL, h2, h]
/-! ### big numbers -/
/-! ### digits -/
/-! ### words -/
theorem txt_list (l : List Nat) : (txt l).cps.toList = l := by simp [txt]
theorem txt_inj {a b : List Nat} (h : txt a = txt b) : a = b := by
  have := congrArg (fun s : Str => s.cps.toList) h
  simpa [txt_list] using this
theorem str_app {a b : List Nat} : (txt a ++ txt b : Str) = txt (a ++ b) := by
  apply str_ext
  show (a.toArray ++ b.toArray).toList = _
  simp [txt]
/-- a word of letters -/
def IsW (s : Str) : Prop := ∃ l : List Nat, s = txt l ∧ l ≠ [] ∧ l.length ≤ 6 ∧ ∀ c ∈ l, 97 ≤ c ∧ c < 123
theorem IsW.ok {s : Str} (h : IsW s) : PyData.strOk s = true := by
  obtain ⟨l, rfl, _, _, hl⟩ := h
  unfold PyData.strOk txt
  rw [← Array.all_toList, List.all_eq_true]
  intro a ha
  have := hl a ha
  exact decide_eq_true (by omega)
end Lk33

namespace Lk33
open PySem PySem.Spec PyProof.Rows L2 Dn
def tD (c : Str × Int × Bool) : DV := .tup [.str c.1, .int c.2.1, .bl c.2.2]
theorem tD_plain {cs : List (Str × Int × Bool)} : plainL (cs.map tD) = true := plainL_iff.mpr fun d h => by
  obtain ⟨c, _, rfl⟩ := List.mem_map.mp h
  rfl
/-- a world of names, cells, shelves -/
structure Wrl (bl : List Str) (cells shelves : List (Str × Int × Bool)) : Prop where
  b0 : 0 < bl.length
  bm : bl.length ≤ 12
  bn : bl.Nodup
  bw : ∀ s ∈ bl, IsW s
  c8 : cells.length ≤ 8
  s4 : shelves.length ≤ 4
  nd : (cells.map (·.1) ++ shelves.map (·.1)).Nodup
  cw : ∀ c ∈ cells, IsW c.1 ∧ In40 c.2.1
  sw : ∀ c ∈ shelves, IsW c.1 ∧ 1 ≤ c.2.1 ∧ c.2.1 ≤ 8
section
variable {x0 x3 x4 x5 x6 x7 x8 : Option DV} {th : List Str}
end
end Lk33

namespace Lk33
open PySem PySem.Spec PyProof.Rows L2 Dn
theorem tD_good {cs : List (Str × Int × Bool)} (h : ∀ c ∈ cs, IsW c.1) : goodL (cs.map tD) = true ∧ deepL (cs.map tD) ≤ 1 := by
  induction cs with
  | nil => exact ⟨rfl, Nat.zero_le _⟩
  | cons c cs ih =>
    obtain ⟨h1, h2⟩ := ih fun c hc => h c (List.mem_cons_of_mem _ hc)
    have h3 := (h c List.mem_cons_self).ok
    refine ⟨?_, ?_⟩
    · show ((PyData.strOk c.1 && (true && (true && true))) && goodL (cs.map tD)) = true
      rw [h1, h3] <;> rfl
    · show max (max 0 (max 0 (max 0 0)) + 1) (deepL (cs.map tD)) ≤ 1
      omega
/-! ### rows -/
def rLedW (many : Nat) : PRow → Prop
  | .ifr _ n => n < many
  | .go n => n < many
  | _ => True
def atmIn (bl : List Str) (a : Atm) : Prop := a.Ok ∧ ∀ s, a = .x s → s ∈ bl
structure RowW (bl cn sn : List Str) (many : Nat) (r : PRow) : Prop where
  ok : r.Ok (cn.map .inr) (sn.map .inr)
  led : rLedW many r
  gv : ∀ b, givesL r = some b → b ∈ bl
  at_ : ∀ a ∈ atomsL r, atmIn bl a
theorem ix_bl {bl : List Str} {i : Int} (h : 0 ≤ i ∧ i < bl.length) : ∃ s, s ∈ bl ∧ ∀ {S : Sto}, pIx (.lst .own (bl.map .str)) (.int i) S = some (.str s, S) :=
  ⟨bl[i.toNat]'(by omega), List.getElem_mem _, fun {S} => Dn.ix_seq (atD_int h.1 (by rw [List.getElem?_map, List.getElem?_eq_getElem (by omega)] <;> rfl))⟩
end Lk33

namespace Lk33
open PySem PySem.Spec PyProof.Rows L2 Dn
abbrev prD (cells shelves : List (Str × Int × Bool)) (rows : List PRow) : DV := .tup [.tup (cells.map tD), .tup (shelves.map tD), .tup (rows.map PRow.d)]
theorem rows_plainW {rs : List PRow} : plainL (rs.map PRow.d) = true := plainL_iff.mpr fun d h => by
  obtain ⟨c, _, rfl⟩ := List.mem_map.mp h
  exact PRow.plain_d
theorem prD_plain {cells shelves : List (Str × Int × Bool)} {rows : List PRow} : plain (prD cells shelves rows) = true := by
  have pc := tD_plain (cs := cells)
  have ps := tD_plain (cs := shelves)
  have pr := rows_plainW (rs := rows)
  simp [pc, ps, pr]
/-- a program is told -/
structure Prg (bl : List Str) (cells shelves : List (Str × Int × Bool)) (rows : List PRow) : Prop where
  w : Wrl bl cells shelves
  n0 : 0 < rows.length
  nz : rows.length ≤ 63
  rw : ∀ r ∈ rows, RowW bl (cells.map (·.1)) (shelves.map (·.1)) rows.length r
  led : ∀ (a : Nat) (r : PRow), rows[a]? = some r → ∀ t ∈ r.led a, t < rows.length
end Lk33

namespace Lk33
open PySem PySem.Spec PyProof.Rows L2 Dn
/-! ### the law's own look at rows -/
theorem inStr {x : Str} {ys : List Str} {S : Sto} : pIn false (.str x) (.tup (ys.map .str)) S = some (.bl (decide (x ∈ ys)), S) := by
  have f : (ys.map DV.str).all flD = true := List.all_eq_true.mpr fun d hd => by
    obtain ⟨y, _, rfl⟩ := List.mem_map.mp hd
    rfl
  show (if flD (.str x) = true ∧ (ys.map DV.str).all flD = true then some (DV.bl (if (false : Bool) then !inD (.str x) (ys.map .str) else inD (.str x) (ys.map .str)), S) else none) = _
  rw [if_pos ⟨rfl, f⟩, inD_strs]
  rfl
theorem in_2 {x a b : Str} {S : Sto} : pIn false (.str x) (.tup [.str a, .str b]) S = some (.bl (decide (x = a) || decide (x = b)), S) := by
  have := inStr (x := x) (ys := [a, b]) (S := S)
  simpa using this
/-! ### gone from a row -/
abbrev snK (sn : List Nat) : List Key := sn.map fun (n : Nat) => .inl (n : Int)
abbrev snV (sn : List Nat) : List DV := sn.map fun _ => .bl true
def sk (sn : List Nat) : Cell := .dik (snK sn) (snV sn)
section
variable {rows : List PRow} {at_ : Nat} {b : Str}
end
end Lk33

namespace Lk33
open PySem PySem.Spec PyProof.Rows L2 Dn
/-! ### names that differ by one letter -/
theorem rg1_of {f : DE} {ρ : Ev} {S S1 : Sto} {n : Nat} (h : f ρ S = some (.int (n : Nat), S1)) (hz : n < 1000000) : iRange1 (aCons f aNil) ρ S = some ((List.range n).map fun (i : Nat) => DV.int i, S1) := by
  unfold iRange1
  rw [args1 h]
  simp only
  rw [if_pos (by omega), Int.toNat_natCast]
  unfold rgD
  refine congrArg some (congrArg (·, S1) (List.map_congr_left fun i _ => ?_))
  rw [Int.zero_add]
theorem lc_map {α : Type} {D E : α → DV} {g : DG} {c fe : DE} {ρ : List (Option DV)} {S : Sto} : ∀ {K : List α}, (∀ b ∈ K, ∃ ρ1, g (D b) ρ S = some (ρ1, S) ∧ c ρ1 S = some (.bl true, S) ∧ fe ρ1 S = some (E b, S)) → lcL g c fe ρ (K.map D) S = some (K.map E, S)
  | [], _ => rfl
  | b :: K, h => by
    obtain ⟨ρ1, h1, h2, h3⟩ := h b List.mem_cons_self
    rw [List.map_cons]
    unfold lcL
    simp only [h1, h2, h3, lc_map fun b hb => h b (List.mem_cons_of_mem _ hb)]
    rfl
theorem cut_to {l : List Nat} {a : Nat} (hz : l.length < 1000) {S : Sto} : pSl (.str (txt l)) none (some (a : Nat)) S = some (.str (txt (l.take a)), S) := by
  have hl : (txt l).length = l.length := txt_len l
  rw [v_slS, if_pos (by rw [hl]; exact size_ok (by omega))]
  congr 3
  unfold cutS
  rw [hl, HT.sIx_none]
  have e : HT.sIx l.length l.length (some (a : Int)) = min a l.length := by
    show (if (a : Int) < 0 then ((a : Int) + (l.length : Nat)).toNat else min (a : Int).toNat l.length) = _
    rw [if_neg (by omega), Int.toNat_natCast]
  rw [e, List.drop_zero, Nat.sub_zero, txt_list]
  show txt (l.take (min a l.length)) = _
  rw [List.take_eq_take_iff.mpr (show min (min a l.length) l.length = min a l.length by omega)]
theorem cut_fr {l : List Nat} {a : Nat} (ha : a ≤ l.length) (hz : l.length < 1000) {S : Sto} : pSl (.str (txt l)) (some (a : Nat)) none S = some (.str (txt (l.drop a)), S) := by
  have hl : (txt l).length = l.length := txt_len l
  rw [v_slS, if_pos (by rw [hl]; exact size_ok (by omega))]
  congr 3
  unfold cutS
  rw [hl]
  have e : HT.sIx l.length 0 (some (a : Int)) = a := by
    show (if (a : Int) < 0 then ((a : Int) + (l.length : Nat)).toNat else min (a : Int).toNat l.length) = _
    rw [if_neg (by omega), Int.toNat_natCast]
    omega
  have e2 : HT.sIx l.length l.length none = l.length := rfl
  rw [e, e2, txt_list]
  show txt ((l.drop a).take (l.length - a)) = _
  rw [List.take_of_length_le (by rw [List.length_drop]; omega)]
/-- a word with one letter put in -/
def ws (p q : List Nat) (j : Nat) : Str := txt (p ++ [97 + j] ++ q)
theorem ws_inj {p q : List Nat} {i j : Nat} (h : ws p q i = ws p q j) : i = j := by
  have h1 := txt_inj h
  rw [List.append_assoc, List.append_assoc] at h1
  have h2 := List.append_cancel_left h1
  have : 97 + i = 97 + j := List.head_eq_of_cons_eq h2
  omega
theorem ws_isW {p q : List Nat} {j : Nat} (hz : p.length + q.length ≤ 5) (hj : j < 26) (hp : ∀ c ∈ p, 97 ≤ c ∧ c < 123) (hq : ∀ c ∈ q, 97 ≤ c ∧ c < 123) : IsW (ws p q j) :=
  ⟨_, rfl, by simp, by simp; omega, fun c hc => by
    rcases List.mem_append.mp hc with hc | hc
    · rcases List.mem_append.mp hc with hc | hc
      · exact hp c hc
      · rw [List.mem_singleton.mp hc]
        omega
    · exact hq c hc⟩
def letK (c : Int) (k : Nat) : Nat := ((c + (k : Int)) % 26).toNat
theorem letK_lt (c : Int) (k : Nat) : letK c k < 26 := by
  unfold letK
  omega
theorem letK_inj {c : Int} {i j : Nat} (hi : i < 26) (hj : j < 26) (h : letK c i = letK c j) : i = j := by
  unfold letK at h
  omega
theorem wsl_nodup {p q : List Nat} {c : Int} {n : Nat} (hn : n ≤ 26) : ((List.range n).map fun k => ws p q (letK c k)).Nodup := by
  unfold List.Nodup
  rw [List.pairwise_map]
  refine List.Pairwise.imp_of_mem (R := fun a b => a ≠ b) (fun {a b} ha hb h e => h ?_) List.nodup_range
  exact letK_inj (by have := List.mem_range.mp ha; omega) (by have := List.mem_range.mp hb; omega) (ws_inj e)
theorem app_txt {a b : List Nat} {S : Sto} (ha : a.length < 1000) (hb : b.length < 1000) : pAdd (.str (txt a)) (.str (txt b)) S = some (.str (txt (a ++ b)), S) := by
  rw [v_addS, if_pos (by rw [txt_len, txt_len, size_eq]; omega), str_app]
def wordL (z : Int) : List Nat := (List.range (z % 6).toNat).map fun (k : Nat) => 97 + ((z * (48271 + 2 * (k : Int)) % 2147483647 / 9) % 26).toNat
theorem wordL_ok (z : Int) : (wordL z).length ≤ 5 ∧ ∀ c ∈ wordL z, 97 ≤ c ∧ c < 123 := by
  unfold wordL
  refine ⟨by rw [List.length_map, List.length_range]; omega, fun c hc => ?_⟩
  obtain ⟨k, _, rfl⟩ := List.mem_map.mp hc
  omega
theorem mnames_eq (z : Int) (n : Nat) (hn : n ≤ 12) : ∃ l : List Str, l.length = n ∧ l.Nodup ∧ (∀ s ∈ l, IsW s) ∧ pureOf F_law_names [.int z, .int n] = some (.lst .own (l.map .str)) := by
  let L := wordL z
  obtain ⟨l5, lw⟩ := wordL_ok z
  have hLl : L.length = (z % 6).toNat := by simp [L, wordL]
  let a : Nat := (z / 6 % (z % 6 + 1)).toNat
  have ha : ((a : Nat) : Int) = z / 6 % (z % 6 + 1) := Int.toNat_of_nonneg (Int.emod_nonneg _ (by omega))
  have hal : a ≤ L.length := by
    have := Int.emod_lt_of_pos (z / 6) (show 0 < z % 6 + 1 by omega)
    omega
  let p := L.take a
  let q := L.drop a
  have pw : ∀ c ∈ p, 97 ≤ c ∧ c < 123 := fun c hc => lw c (List.mem_of_mem_take hc)
  have qw : ∀ c ∈ q, 97 ≤ c ∧ c < 123 := fun c hc => lw c (List.mem_of_mem_drop hc)
  have pq : p.length + q.length ≤ 5 := by
    have : p.length + q.length = L.length := by
      show (L.take a).length + (L.drop a).length = _
      rw [List.length_take, List.length_drop]
      omega
    have : L.length ≤ 5 := l5
    omega
  let ρ (x3 x4 x5 x6 : Option DV) : List (Option DV) := [some (.int z), some (.int n), some (.str "abcdefghijklmnopqrstuvwxyz"), x3, x4, x5, x6]
  let j3 : Option DV := some (.int (z % 6))
  let j4 : Option DV := some (.str (txt L))
  let j5 : Option DV := some (.int (a : Nat))
  have e3 : dBin pMod (dVar 0) (dC (.int 6)) (ρ none none none none) ([] : Sto) = some (.int (z % 6), []) := bin_of (x := .int z) (y := .int 6) rfl rfl (v_modI (by decide))
  have e4 : dM1 pJoin (dC (.str "")) (dLc (iRange1 (aCons (dVar 3) aNil)) (gSet 6) (dC (.bl true)) (dBin pIx (dVar 2) (dBin pMod (dBin pDiv (dBin pMod (dBin pMul (dVar 0) (dBin pAdd (dC (.int 48271)) (dBin pMul (dC (.int 2)) (dVar 6)))) (dC (.int 2147483647))) (dC (.int 9))) (dC (.int 26)))) [6]) (ρ j3 none none none) [] = some (.str (txt L), []) := by
    refine join_signs (k := .own) ?_ (by omega)
    have hr : iRange1 (aCons (dVar 3) aNil) (ρ j3 none none none) [] = some ((List.range (z % 6).toNat).map fun (i : Nat) => DV.int i, []) :=
      rg1_of (by show some (DV.int (z % 6), ([] : Sto)) = _; rw [Int.toNat_of_nonneg (by omega)]) (by omega)
    refine (dLc_of (vs := [6]) hr (lc_map (E := fun (k : Nat) => .str (one1 (97 + ((z * (48271 + 2 * (k : Int)) % 2147483647 / 9) % 26).toNat))) fun k hk => ?_) ?_).trans ?_
    rotate_left
    · exact size_ok (by rw [List.length_map, List.length_range]; omega)
    rotate_left
    · have hk := List.mem_range.mp hk
      refine ⟨ρ j3 none none (some (.int k)), rfl, rfl, ?_⟩
      refine bin_of (x := .str "abcdefghijklmnopqrstuvwxyz") rfl (bin_of (bin_of (bin_of (bin_of (x := .int z) rfl (bin_of (x := .int 48271) rfl (bin_of (x := .int 2) (y := .int (k : Nat)) rfl rfl (v_mulI (by omega))) rfl) (v_mulI (by omega))) rfl (v_modI (by decide))) rfl (v_divI (by decide) (by decide))) rfl (v_modI (by decide))) (abc_ix (by omega) (by omega))
    · show some (DV.lst .own _, _) = some (DV.lst .own ((wordL z).map _), _)
      unfold wordL
      rw [List.map_map]
      rfl
  have e5 : dBin pMod (dBin pDiv (dVar 0) (dC (.int 6))) (dBin pAdd (dVar 3) (dC (.int 1))) (ρ j3 j4 none none) ([] : Sto) = some (.int (a : Nat), []) := by
    rw [ha]
    exact bin_of (bin_of (x := .int z) (y := .int 6) rfl rfl (v_divI (by decide) (by decide))) (bin_of (x := .int (z % 6)) (y := .int 1) rfl rfl rfl) (v_modI (by omega))
  let c : Int := z / 36
  refine ⟨(List.range n).map fun k => ws p q (letK c k), by rw [List.length_map, List.length_range], wsl_nodup (by omega), fun s hs => ?_, ?_⟩
  · obtain ⟨k, _, rfl⟩ := List.mem_map.mp hs
    exact ws_isW pq (letK_lt c k) pw qw
  · have e6 : dLc (iRange1 (aCons (dVar 1) aNil)) (gSet 6) (dC (.bl true)) (dBin pAdd (dBin pAdd (dSl pSl (dVar 4) oNone (oSome (dVar 5))) (dBin pIx (dVar 2) (dBin pMod (dBin pAdd (dBin pDiv (dVar 0) (dC (.int 36))) (dVar 6)) (dC (.int 26))))) (dSl pSl (dVar 4) (oSome (dVar 5)) oNone)) [6] (ρ j3 j4 j5 none) [] = some (.lst .own ((List.range n).map fun k => DV.str (ws p q (letK c k))), []) := by
      refine dLc_of (vs := [6]) (rg1_of (n := n) rfl (by omega)) (lc_map (E := fun k => DV.str (ws p q (letK c k))) fun k hk => ?_) (size_ok (n := ((List.range n).map fun k => DV.str (ws p q (letK c k))).length) (by rw [List.length_map, List.length_range]; omega))
      refine ⟨ρ j3 j4 j5 (some (.int k)), rfl, rfl, ?_⟩
      have z1 : dSl pSl (dVar 4) oNone (oSome (dVar 5)) (ρ j3 j4 j5 (some (.int k))) ([] : Sto) = some (.str (txt p), []) := by
        show pSl (.str (txt L)) none (some (a : Nat)) ([] : Sto) = _
        exact cut_to (by omega)
      have z2 : dSl pSl (dVar 4) (oSome (dVar 5)) oNone (ρ j3 j4 j5 (some (.int k))) ([] : Sto) = some (.str (txt q), []) := by
        show pSl (.str (txt L)) (some (a : Nat)) none ([] : Sto) = _
        exact cut_fr hal (by omega)
      have z3 : dBin pIx (dVar 2) (dBin pMod (dBin pAdd (dBin pDiv (dVar 0) (dC (.int 36))) (dVar 6)) (dC (.int 26))) (ρ j3 j4 j5 (some (.int k))) ([] : Sto) = some (.str (txt [97 + letK c k]), []) := by
        refine bin_of (x := .str "abcdefghijklmnopqrstuvwxyz") rfl (bin_of (bin_of (bin_of (x := .int z) (y := .int 36) rfl rfl (v_divI (by decide) (by decide))) (y := .int (k : Nat)) rfl rfl) rfl (v_modI (by decide))) ?_
        exact abc_ix (by omega) (by omega)
      exact bin_of (bin_of z1 z3 (app_txt (by omega) (by simp))) z2 (app_txt (by rw [List.length_append, List.length_singleton]; omega) (by omega))
    refine pureOf_of (S' := []) (run_rt rfl ((seq_nx (s := dSet 2 (dC (.str "abcdefghijklmnopqrstuvwxyz"))) rfl).trans ((seq_nx (set_of (S1 := []) e3)).trans ((seq_nx (set_of (S1 := []) e4)).trans ((seq_nx (set_of (S1 := []) e5)).trans (ret_of (S1 := []) ?_)))))) (by rw [plain_own]; exact plainL_strs)
    refine Eq.trans e6 ?_
    rw [List.map_map]
    rfl
end Lk33

namespace Lk33
open PySem PySem.Spec PyProof.Rows L2 Dn
/-! ### atoms and rows -/
theorem md {a b : Int} (h : 0 < b) : 0 ≤ a % b ∧ a % b < b := ⟨Int.emod_nonneg _ (by omega), Int.emod_lt_of_pos _ h⟩
theorem hasK_in {l : List Str} {c : Str} (h : c ∈ l) : hasK (l.map fun s => (Sum.inr s : Key)) (.inr c) = true := by
  unfold hasK
  exact List.any_eq_true.mpr ⟨.inr c, List.mem_map_of_mem h, by simp⟩
end Lk33

namespace Lk33
open PySem PySem.Spec PyProof.Rows L2 Dn
/-! ### a program -/
theorem mat_cell {ns : List Int} {k : Nat} : pureOf F_law_cell_at [.lst .ext (ns.map DV.int), .int k] = some (.int (ns.getD k 0)) := at_cell
theorem cut_ints {k : LK} {ns : List Int} {a b : Nat} {S : Sto} (hk : a ≤ b) : ∃ m : List Int, pSl (.lst k (ns.map .int)) (some (a : Nat)) (some (b : Nat)) S = some (.lst .own (m.map .int), S) ∧ m.length ≤ b - a ∧ m.length ≤ ns.length := by
  refine ⟨(ns.drop (min a ns.length)).take (min b ns.length - min a ns.length), ?_, ?_, ?_⟩
  · rw [v_slL]
    unfold Dn.cutD
    have e : ∀ c d : Nat, HT.sIx (ns.map DV.int).length d (some (c : Int)) = min c ns.length := fun c d => by
      show (if (c : Int) < 0 then ((c : Int) + ((ns.map DV.int).length : Nat)).toNat else min (c : Int).toNat (ns.map DV.int).length) = _
      rw [if_neg (by omega), Int.toNat_natCast, List.length_map]
    rw [e, e, List.map_take, List.map_drop]
  · rw [List.length_take]
    omega
  · rw [List.length_take, List.length_drop]
    omega
end Lk33

namespace Lk33
open PySem PySem.Spec PyProof.Rows L2 Dn
/-! ### how a row touches a thing -/
def tch (nm : Str) : PRow → Str
  | .load _ c => if c = nm then "load" else ""
  | .store c _ => if c = nm then "store" else ""
  | .take _ s _ => if s = nm then "take" else ""
  | .lay s _ _ => if s = nm then "lay" else ""
  | _ => ""
def beh (d : Str) (seen : Bool) : Option Bool := if d = "store" ∧ seen = false then none else some (seen || (decide (d = "load") || decide (d = "take")))
def optB : Option Bool → DV
  | none => .non
  | some b => .bl b
theorem v_tabIn {neg : Bool} {kvs : List (Str × He.Dv)} {f : DE} {ρ : List (Option DV)} {S : Sto} : dTabIn neg kvs f ρ S = (match f ρ S with
  | some (.str z, S1) => some (.bl (if neg then !(tabF kvs z).isSome else (tabF kvs z).isSome), S1)
  | _ => none) := (rfl)
theorem v_tabIx {kvs : List (Str × He.Dv)} {f : DE} {ρ : List (Option DV)} {S : Sto} : dTabIx kvs f ρ S = (match f ρ S with
  | some (.str z, S1) => (match tabF kvs z with
    | some v => some (dvD v, S1)
    | none => none)
  | _ => none) := (rfl)
theorem touch_eq (r : PRow) (nm : Str) : pureOf F_touch [r.d, .str nm] = some (.str (tch nm r)) := by
  refine pureOf_of (S' := []) ?_ rfl
  have y1 : tabF t_TOUCHES "load" = some (.int 2) := by rfl
  have y2 : tabF t_TOUCHES "store" = some (.int 1) := by rfl
  have y3 : tabF t_TOUCHES "take" = some (.int 2) := by rfl
  have y4 : tabF t_TOUCHES "lay" = some (.int 1) := by rfl
  have n1 : tabF t_TOUCHES "say" = none := by rfl
  have n2 : tabF t_TOUCHES "copy" = none := by rfl
  have n3 : tabF t_TOUCHES "op" = none := by rfl
  have n4 : tabF t_TOUCHES "hear" = none := by rfl
  have n5 : tabF t_TOUCHES "if" = none := by rfl
  have n6 : tabF t_TOUCHES "go" = none := by rfl
  have n7 : tabF t_TOUCHES "end" = none := by rfl
  unfold F_touch b_touch runF
  cases r with
  | load x c =>
    by_cases q : c = nm
    · subst q
      simp [PRow.d, tch, v_tabIn, v_tabIx, y1, dvD]
    · simp [PRow.d, tch, v_tabIn, v_tabIx, y1, dvD, q]
  | store c a =>
    by_cases q : c = nm
    · subst q
      simp [PRow.d, tch, v_tabIn, v_tabIx, y2, dvD]
    · simp [PRow.d, tch, v_tabIn, v_tabIx, y2, dvD, q]
  | take x s a =>
    by_cases q : s = nm
    · subst q
      simp [PRow.d, tch, v_tabIn, v_tabIx, y3, dvD]
    · simp [PRow.d, tch, v_tabIn, v_tabIx, y3, dvD, q]
  | lay s a b =>
    by_cases q : s = nm
    · subst q
      simp [PRow.d, tch, v_tabIn, v_tabIx, y4, dvD]
    · simp [PRow.d, tch, v_tabIn, v_tabIx, y4, dvD, q]
  | _ => simp [PRow.d, tch, v_tabIn, v_tabIx, n1, n2, n3, n4, n5, n6, n7]
theorem behind_eq (d : Str) (s : Bool) : pureOf F_behind [.str d, .bl s] = some (optB (beh d s)) := by
  refine pureOf_of (S' := []) ?_ (by unfold beh; split <;> rfl)
  unfold F_behind b_behind runF beh
  cases s with
  | false =>
    by_cases q : d = "store"
    · subst q
      simp [optB]
    · by_cases q2 : d = "load"
      · subst q2
        simp [optB]
      · simp [optB, q, q2]
  | true =>
    by_cases q : d = "store"
    · subst q
      simp [optB]
    · simp [optB, q]
/-! ### what may be spoilt -/
def mayL (nm : Str) : List (Str × Int × Bool) → Bool
  | [] => false
  | c :: cs => if c.1 = nm then !c.2.2 else mayL nm cs
abbrev mayB : DS := dIfS (dBin (pEq false) (dBin pIx (dVar 2) (dC (.int 0))) (dVar 1)) (dRet (dNot (dBin pIx (dVar 2) (dC (.int 2))))) dNext
theorem may_loop {P : DV} {nm : Str} : ∀ (cs : List (Str × Int × Bool)) (x : Option DV), forL (gSet 2) mayB (cs.map tD) [some P, some (.str nm), x] [] = some (.rt (.bl (mayL nm cs)) []) ∨
    (mayL nm cs = false ∧ ∃ ρ, forL (gSet 2) mayB (cs.map tD) [some P, some (.str nm), x] [] = some (.nx ρ []))
  | [], x => .inr ⟨rfl, _, rfl⟩
  | c :: cs, x => by
    have ih := may_loop (P := P) (nm := nm) cs (some (tD c))
    have h0 : dBin (pEq false) (dBin pIx (dVar 2) (dC (.int 0))) (dVar 1) [some P, some (.str nm), some (tD c)] [] = some (.bl (decide (c.1 = nm)), []) := rfl
    have h2 : dNot (dBin pIx (dVar 2) (dC (.int 2))) [some P, some (.str nm), some (tD c)] [] = some (.bl (!c.2.2), []) := rfl
    rw [List.map_cons]
    unfold forL mayL
    simp only [v_gset, List.set_cons_succ, List.set_cons_zero]
    by_cases q : c.1 = nm
    · have hb : mayB [some P, some (.str nm), some (tD c)] [] = some (.rt (.bl (!c.2.2)) []) := by
        rw [decide_eq_true q] at h0
        show dIfS _ _ _ _ _ = _
        rw [v_ifS, h0]
        simp only [v_ret, h2]
      rw [if_pos q]
      simp only [hb, true_or]
    · have hb : mayB [some P, some (.str nm), some (tD c)] [] = some (.nx [some P, some (.str nm), some (tD c)] []) := by
        rw [decide_eq_false q] at h0
        show dIfS _ _ _ _ _ = _
        rw [v_ifS, h0]
        simp only [v_next]
      rw [if_neg q]
      simp only [hb]
      exact ih
theorem may_eq (cells shelves : List (Str × Int × Bool)) (R : DV) (nm : Str) (hz : cells.length + shelves.length < 1000) : pureOf F_may_spoil [.tup [.tup (cells.map tD), .tup (shelves.map tD), R], .str nm] = some (.bl (mayL nm (cells ++ shelves))) := by
  refine pureOf_of (S' := []) ?_ rfl
  have h := may_loop (P := .tup [.tup (cells.map tD), .tup (shelves.map tD), R]) (nm := nm) (cells ++ shelves) none
  rw [List.map_append] at h
  have hi : iSeq (dBin pAdd (dBin pIx (dVar 0) (dC (.int 0))) (dBin pIx (dVar 0) (dC (.int 1)))) [some (.tup [.tup (cells.map tD), .tup (shelves.map tD), R]), some (.str nm), none] [] = some (cells.map tD ++ shelves.map tD, []) := by
    have e0 : dBin pIx (dVar 0) (dC (.int 0)) [some (.tup [.tup (cells.map tD), .tup (shelves.map tD), R]), some (.str nm), none] ([] : Sto) = some (.tup (cells.map tD), []) := rfl
    have e1 : dBin pIx (dVar 0) (dC (.int 1)) [some (.tup [.tup (cells.map tD), .tup (shelves.map tD), R]), some (.str nm), none] ([] : Sto) = some (.tup (shelves.map tD), []) := rfl
    rw [iSeq_eq, v_bin, e0]
    simp only [e1]
    rw [v_addT, if_pos (by simp only [List.length_map, size_eq]; omega)]
  unfold F_may_spoil b_may_spoil runF
  show (match (dSeq _ _ [some _, some _, none] [] : Option Out) with | some (.rt d S') => some (d, S') | some (.nx _ S') => some (.non, S') | _ => none) = _
  rw [v_seq, v_for, hi]
  simp only
  rcases h with h | ⟨h1, ρ, h⟩
  · rw [h]
  · rw [h, h1]
    rfl
/-! ### a cutting -/
abbrev kpD (k : Nat × DV) : DV := .tup [.int k.1, k.2]
abbrev cdD (b : DV) (ks : List (Nat × DV)) : DV := .tup [b, .tup (ks.map kpD)]
theorem cdD_plain {b : DV} {ks : List (Nat × DV)} (hb : plain b = true) (h : ∀ k ∈ ks, plain k.2 = true) : plain (cdD b ks) = true := by
  have : plainL (ks.map kpD) = true := plainL_iff.mpr fun d hd => by
    obtain ⟨k, hk, rfl⟩ := List.mem_map.mp hd
    simp [h k hk]
  simp [hb, this]
theorem places_eq (b : DV) (ks : List (Nat × DV)) (hz : ks.length < 1000) : pureOf F_place_rows [cdD b ks] = some (.lst .own ((0 :: ks.map (·.1)).map fun (n : Nat) => .int n)) := by
  refine pureOf_of (S' := []) ?_ (by rw [plain_own]; exact plainL_iff.mpr fun d hd => by obtain ⟨n, _, rfl⟩ := List.mem_map.mp hd; rfl)
  have hl : lcL (gTupD 2 (gsCons (gSet 1) (gsCons (gSet 2) gsNil))) (dC (.bl true)) (dVar 1) [some (cdD b ks), none, none] (ks.map kpD) [] = some (ks.map fun k => DV.int (k.1 : Nat), []) := by
    induction ks with
    | nil => rfl
    | cons k ks ih => 
      clear ih
      have go : ∀ (P : Option DV) (ks : List (Nat × DV)), lcL (gTupD 2 (gsCons (gSet 1) (gsCons (gSet 2) gsNil))) (dC (.bl true)) (dVar 1) [P, none, none] (ks.map kpD) [] = some (ks.map fun k => DV.int (k.1 : Nat), []) := by
        intro P ks
        induction ks with
        | nil => rfl
        | cons k ks ih =>
          rw [List.map_cons]
          unfold lcL
          have g1 : gTupD 2 (gsCons (gSet 1) (gsCons (gSet 2) gsNil)) (kpD k) [P, none, none] [] = some ([P, some (.int (k.1 : Nat)), some k.2], []) := rfl
          have v1 : dVar 1 [P, some (.int (k.1 : Nat)), some k.2] ([] : Sto) = some (.int (k.1 : Nat), []) := rfl
          simp only [g1, v_c, v1, ih, List.map_cons]
      exact go _ _
  have hi : iSeq (dBin pIx (dVar 0) (dC (.int 1))) [some (cdD b ks), none, none] [] = some (ks.map kpD, []) := rfl
  have e := dLc_of (vs := [1, 2]) hi (by rw [show (dwipe [some (cdD b ks), none, none] [1, 2]) = [some (cdD b ks), none, none] from rfl]; exact hl) (size_ok (by rw [List.length_map]; omega))
  unfold F_place_rows b_place_rows runF
  show (match (dRet _ [some (cdD b ks), none, none] [] : Option Out) with | some (.rt d S') => some (d, S') | some (.nx _ S') => some (.non, S') | _ => none) = _
  have e0 : dPrim pLst (aCons (dC (.int 0)) aNil) [some (cdD b ks), none, none] ([] : Sto) = some (.lst .own [.int 0], []) := rfl
  rw [v_ret, v_bin, e0]
  simp only [e]
  rw [v_addL (by decide) (by decide), if_pos (by simp only [List.length_map, size_eq, List.length_cons, List.length_nil]; omega)]
  simp [List.map_map]
end Lk33

namespace Lk33
open PySem PySem.Spec PyProof.Rows L2 Dn
/-! ### a search: who came from where, who is left -/
abbrev Nd : Type := Nat × Bool
abbrev Cm : Type := List (Nd × Option Nd)
def push (p : Nd) (s : Cm × List Nd) (t : Nd) : Cm × List Nd := if t ∈ s.1.map (·.1) then s else (s.1 ++ [(t, some p)], s.2 ++ [t])
structure Srch (src : List Nd) (succ : Nd → List Nd) (test : Nd → Bool) (C : Cm) (q : List Nd) : Prop where
  nd : (C.map (·.1)).Nodup
  ini : ∀ s ∈ src, s ∈ C.map (·.1)
  root : ∀ k, (k, none) ∈ C → k ∈ src
  par : ∀ (i : Nat) (k p : Nd), C[i]? = some (k, some p) → k ∈ succ p ∧ ∃ (j : Nat) (v : Option Nd), j < i ∧ C[j]? = some (p, v)
  qs : ∀ k ∈ q, k ∈ C.map (·.1)
  done : ∀ k ∈ C.map (·.1), k ∉ q → test k = false ∧ ∀ t ∈ succ k, t ∈ C.map (·.1)
section
variable {src : List Nd} {succ : Nd → List Nd} {test : Nd → Bool}
theorem push_keys {p : Nd} {s : Cm × List Nd} {t x : Nd} : x ∈ (push p s t).1.map (·.1) ↔ x ∈ s.1.map (·.1) ∨ x = t := by
  unfold push
  split
  · rename_i h
    exact ⟨.inl, fun z => z.elim id fun e => by rw [e]; exact h⟩
  · rw [List.map_append, List.mem_append]
    simp
theorem push_all {p : Nd} : ∀ {ts : List Nd} {s : Cm × List Nd} {x : Nd}, x ∈ (ts.foldl (push p) s).1.map (·.1) ↔ x ∈ s.1.map (·.1) ∨ x ∈ ts
  | [], s, x => by simp
  | t :: ts, s, x => by
    rw [List.foldl_cons, push_all, push_keys, List.mem_cons]
    constructor
    · rintro ((h | h) | h)
      · exact .inl h
      · exact .inr (.inl h)
      · exact .inr (.inr h)
    · rintro (h | h | h)
      · exact .inl (.inl h)
      · exact .inl (.inr h)
      · exact .inr h
/-- what holds along the pushes from p -/
structure Push (src : List Nd) (succ : Nd → List Nd) (p : Nd) (C0 : Cm) (q0 : List Nd) (C : Cm) (q : List Nd) : Prop where
  nd : (C.map (·.1)).Nodup
  root : ∀ k, (k, none) ∈ C → k ∈ src
  par : ∀ (i : Nat) (k p : Nd), C[i]? = some (k, some p) → k ∈ succ p ∧ ∃ (j : Nat) (v : Option Nd), j < i ∧ C[j]? = some (p, v)
  at_ : p ∈ C.map (·.1)
  old : ∀ x ∈ C0.map (·.1), x ∈ C.map (·.1)
  qk : ∀ k ∈ q, k ∈ C.map (·.1)
  qo : ∀ k ∈ q0, k ∈ q
  new : ∀ x ∈ C.map (·.1), x ∈ C0.map (·.1) ∨ x ∈ q
  len : q.length + C0.length = q0.length + C.length
theorem push_ok {p t : Nd} {C0 C : Cm} {q0 q : List Nd} (A : Push src succ p C0 q0 C q) (h : t ∈ succ p) : Push src succ p C0 q0 (push p (C, q) t).1 (push p (C, q) t).2 := by
  unfold push
  dsimp only
  by_cases hc : t ∈ C.map (·.1)
  · rw [if_pos hc]
    exact A
  · rw [if_neg hc]
    refine ⟨?_, fun k hk => ?_, fun i k p' hi => ?_, ?_, fun x hx => ?_, fun k hk => ?_, fun k hk => ?_, fun x hx => ?_, ?_⟩
    · rw [List.map_append]
      refine List.nodup_append.mpr ⟨A.nd, List.pairwise_singleton _ _, fun a ha b hb e => hc ?_⟩
      rw [List.mem_singleton.mp hb] at e
      rw [e] at ha
      exact ha
    · rcases List.mem_append.mp hk with z | z
      · exact A.root k z
      · cases List.mem_singleton.mp z
    · by_cases hl : i < C.length
      · rw [List.getElem?_append_left hl] at hi
        obtain ⟨h1, j, v, h2, h3⟩ := A.par i k p' hi
        exact ⟨h1, j, v, h2, by rw [List.getElem?_append_left (by omega)]; exact h3⟩
      · have e : i = C.length := by
          have := (List.getElem?_eq_some_iff.mp hi).1
          rw [List.length_append, List.length_singleton] at this
          omega
        subst e
        rw [get_len] at hi
        cases hi
        obtain ⟨e0, he0, he1⟩ := List.mem_map.mp A.at_
        obtain ⟨j, hj⟩ := List.getElem?_of_mem he0
        have hjl := (List.getElem?_eq_some_iff.mp hj).1
        refine ⟨h, j, e0.2, hjl, ?_⟩
        rw [List.getElem?_append_left hjl, hj, ← he1]
    · rw [List.map_append]
      exact List.mem_append_left _ A.at_
    · rw [List.map_append]
      exact List.mem_append_left _ (A.old x hx)
    · rw [List.map_append]
      rcases List.mem_append.mp hk with z | z
      · exact List.mem_append_left _ (A.qk k z)
      · exact List.mem_append_right _ z
    · exact List.mem_append_left _ (A.qo k hk)
    · rw [List.map_append] at hx
      rcases List.mem_append.mp hx with z | z
      · rcases A.new x z with y | y
        · exact .inl y
        · exact .inr (List.mem_append_left _ y)
      · exact .inr (List.mem_append_right _ z)
    · have := A.len
      simp only [List.length_append, List.length_singleton]
      omega
theorem push_fold {p : Nd} {C0 : Cm} {q0 : List Nd} : ∀ {ts : List Nd} {C : Cm} {q : List Nd}, Push src succ p C0 q0 C q → (∀ t ∈ ts, t ∈ succ p) → Push src succ p C0 q0 (ts.foldl (push p) (C, q)).1 (ts.foldl (push p) (C, q)).2
  | [], C, q, A, _ => A
  | t :: ts, C, q, A, h => by
    have B := push_ok A (h t List.mem_cons_self)
    rw [List.foldl_cons]
    exact push_fold (C := (push p (C, q) t).1) (q := (push p (C, q) t).2) B fun x hx => h x (List.mem_cons_of_mem _ hx)
/-- one is done -/
theorem srch_step {C : Cm} {k : Nd} {q : List Nd} (A : Srch src succ test C (k :: q)) (ht : test k = false) :
    Srch src succ test ((succ k).foldl (push k) (C, q)).1 ((succ k).foldl (push k) (C, q)).2 ∧ ((succ k).foldl (push k) (C, q)).2.length + C.length = q.length + ((succ k).foldl (push k) (C, q)).1.length := by
  have hk : k ∈ C.map (·.1) := A.qs k List.mem_cons_self
  have P : Push src succ k C q C q := ⟨A.nd, A.root, A.par, hk, fun x hx => hx, fun x hx => A.qs x (List.mem_cons_of_mem _ hx), fun x hx => hx, fun x hx => .inl hx, rfl⟩
  have B := push_fold (ts := succ k) P fun t ht => ht
  refine ⟨⟨B.nd, fun s hs => B.old s (A.ini s hs), B.root, B.par, B.qk, fun x hx hq => ?_⟩, B.len⟩
  rcases B.new x hx with z | z
  · by_cases e : x = k
    · subst e
      exact ⟨ht, fun t h => push_all.mpr (.inr h)⟩
    · obtain ⟨h1, h2⟩ := A.done x z fun y => by
        rcases List.mem_cons.mp y with w | w
        · exact e w
        · exact hq (B.qo x w)
      exact ⟨h1, fun t h => B.old t (h2 t h)⟩
  · exact absurd z hq
/-- the way back -/
inductive Back (C : Cm) : Nd → List Nd → Prop
  | root {k : Nd} (h : (k, none) ∈ C) : Back C k [k]
  | step {k p : Nd} {l : List Nd} (h : (k, some p) ∈ C) (hl : Back C p l) : Back C k (k :: l)
inductive BkOk (src : List Nd) (succ : Nd → List Nd) : Nd → List Nd → Prop
  | root {k : Nd} (h : k ∈ src) : BkOk src succ k [k]
  | step {k p : Nd} {l : List Nd} (h : k ∈ succ p) (hl : BkOk src succ p l) : BkOk src succ k (k :: l)
theorem back_of {C : Cm} {q : List Nd} (A : Srch src succ test C q) : ∀ (n i : Nat) (k : Nd) (v : Option Nd), i < n → C[i]? = some (k, v) → ∃ l, Back C k l ∧ BkOk src succ k l ∧ l.length ≤ i + 1
  | 0, i, k, v, h, _ => by omega
  | n + 1, i, k, v, h, hi => by
    cases v with
    | none => exact ⟨[k], .root (List.mem_of_getElem? hi), .root (A.root k (List.mem_of_getElem? hi)), by simp⟩
    | some p =>
      obtain ⟨h1, j, v', h2, h3⟩ := A.par i k p hi
      obtain ⟨l, b1, b2, b3⟩ := back_of A n j p v' (by omega) h3
      exact ⟨k :: l, .step (List.mem_of_getElem? hi) b1, .step h1 b2, by rw [List.length_cons]; omega⟩
theorem back_key {C : Cm} {q : List Nd} (A : Srch src succ test C q) {k : Nd} (h : k ∈ C.map (·.1)) : ∃ l, Back C k l ∧ BkOk src succ k l ∧ l.length ≤ C.length := by
  obtain ⟨e, he, rfl⟩ := List.mem_map.mp h
  obtain ⟨i, hi⟩ := List.getElem?_of_mem he
  have hl := (List.getElem?_eq_some_iff.mp hi).1
  obtain ⟨l, b1, b2, b3⟩ := back_of A (i + 1) i e.1 e.2 (by omega) hi
  exact ⟨l, b1, b2, by omega⟩
/-- who is reached -/
inductive Rch (src : List Nd) (succ : Nd → List Nd) : Nd → Prop
  | here {k : Nd} (h : k ∈ src) : Rch src succ k
  | on {k t : Nd} (h : Rch src succ k) (ht : t ∈ succ k) : Rch src succ t
theorem srch_all {C : Cm} (A : Srch src succ test C []) {k : Nd} (h : Rch src succ k) : k ∈ C.map (·.1) ∧ test k = false := by
  induction h with
  | here h => exact ⟨A.ini _ h, (A.done _ (A.ini _ h) (List.not_mem_nil)).1⟩
  | on _ ht ih =>
    have := (A.done _ ih.1 List.not_mem_nil).2 _ ht
    exact ⟨this, (A.done _ this List.not_mem_nil).1⟩
end
/-! ### in the store -/
def ndK (k : Nd) : Int × Bool := ((k.1 : Int), k.2)
def ndD (k : Nd) : DV := .tup [.int k.1, .bl k.2]
def optN : Option Nd → DV
  | none => .non
  | some k => ndD k
def cmC (C : Cm) : Cell := .dlf ((C.map (·.1)).map ndK) (C.map fun e => optN e.2)
theorem ndK_inj {j k : Nd} (h : ndK j = ndK k) : j = k := by
  obtain ⟨i, b⟩ := j
  obtain ⟨i', b'⟩ := k
  unfold ndK at h
  simp only [Prod.mk.injEq] at h
  obtain ⟨h1, h2⟩ := h
  rw [h2, show i = i' by omega]
theorem lfKey_nd (k : Nd) : lfKey (ndD k) = some (ndK k) := rfl
theorem hasK_nd {ks : List Nd} {k : Nd} : hasK (ks.map ndK) (ndK k) = decide (k ∈ ks) := by
  unfold hasK
  by_cases q : k ∈ ks
  · rw [decide_eq_true q, List.any_eq_true]
    exact ⟨ndK k, List.mem_map.mpr ⟨k, q, rfl⟩, decide_eq_true rfl⟩
  · rw [decide_eq_false q, List.any_eq_false]
    intro j hj
    obtain ⟨x, hx, rfl⟩ := List.mem_map.mp hj
    simp only [decide_eq_true_eq]
    exact fun e => q (by rw [← ndK_inj e]; exact hx)
theorem lk_nd : ∀ {C : Cm} {k : Nd} {v : Option Nd}, (C.map (·.1)).Nodup → (k, v) ∈ C → lkD ((C.map (·.1)).map ndK) (C.map fun e => optN e.2) (ndK k) = some (optN v)
  | [], k, v, _, h => nomatch h
  | e :: C, k, v, hn, h => by
    rw [List.map_cons, List.nodup_cons] at hn
    rw [List.map_cons, List.map_cons, List.map_cons]
    unfold lkD
    by_cases q : e.1 = k
    · rw [if_pos (by rw [q])]
      rcases List.mem_cons.mp h with z | z
      · rw [← z]
      · exact absurd (List.mem_map.mpr ⟨_, z, rfl⟩) (by rw [← q] at *; exact hn.1)
    · rw [if_neg fun z => q (ndK_inj z)]
      rcases List.mem_cons.mp h with z | z
      · exact absurd (by rw [← z]) q
      · exact lk_nd hn.2 z
theorem in_cm {S : Sto} {n : Nat} {C : Cm} (h : S[n]? = some (cmC C)) (k : Nd) (neg : Bool) : pLfIn neg (ndD k) (.loc n) S = some (.bl (if neg then !decide (k ∈ C.map (·.1)) else decide (k ∈ C.map (·.1))), S) := by
  unfold pLfIn lfOf
  simp only [h, cmC, lfKey_nd, hasK_nd]
theorem ix_cm {S : Sto} {n : Nat} {C : Cm} (h : S[n]? = some (cmC C)) {k : Nd} {v : Option Nd} (hn : (C.map (·.1)).Nodup) (hk : (k, v) ∈ C) : pLfIx (.loc n) (ndD k) S = some (optN v, S) := by
  unfold pLfIx lfOf
  simp only [h, cmC, lfKey_nd, lk_nd hn hk]
theorem set_cm {S : Sto} {n : Nat} {C : Cm} (h : S[n]? = some (cmC C)) {k : Nd} {v : Option Nd} (hk : k ∉ C.map (·.1)) (hz : C.length < 100000) : lfSetI (.loc n) (ndD k) (optN v) S = some (S.set n (cmC (C ++ [(k, v)]))) := by
  unfold lfSetI
  simp only [h, cmC, lfKey_nd]
  rw [if_pos (by rw [List.length_map, List.length_map, size_eq]; omega)]
  unfold putKs putVs
  rw [hasK_nd, decide_eq_false hk]
  simp [List.map_append]
end Lk33

namespace Lk33
open PySem PySem.Spec PyProof.Rows L2 Dn
def iN (l : List Nat) : List DV := l.map fun (n : Nat) => .int n
theorem iN_app {a b : List Nat} : iN (a ++ b) = iN a ++ iN b := List.map_append
theorem iN_len {a : List Nat} : (iN a).length = a.length := List.length_map ..
/-! ### led_by -/
abbrev lbC : DE := dBin (pIs true) (dVar 1) (dC .non)
abbrev lbB : DS := dSeq (dExpr (dMt pAppend (dVar 2) (aCons (dBin pIx (dVar 1) (dC (.int 0))) aNil))) (dSet 1 (dBin pLfIx (dVar 0) (dVar 1)))
theorem lb_turn {n m : Nat} {S : Sto} {C : Cm} {k : Nd} {v : Option Nd} {acc : List Nat} (hn : (C.map (·.1)).Nodup) (hk : (k, v) ∈ C) (h1 : S[n]? = some (cmC C)) (h2 : S[m]? = some (.lst (iN acc))) (ne : n ≠ m) (hz : acc.length < 100000) :
    lbC [some (.loc n), some (ndD k), some (.loc m)] S = some (.bl true, S) ∧
    lbB [some (.loc n), some (ndD k), some (.loc m)] S = some (.nx [some (.loc n), some (optN v), some (.loc m)] (S.set m (.lst (iN (acc ++ [k.1]))))) := by
  refine ⟨rfl, ?_⟩
  have ap := app_loc (y := .int (k.1 : Nat)) h2 (by rw [iN_len]; omega)
  have as := asL_loc h2
  have h3 : (S.set m (.lst (iN acc ++ [.int (k.1 : Nat)])))[n]? = some (cmC C) := by
    rw [List.getElem?_set_ne (fun e => ne e.symm)]
    exact h1
  have ix := ix_cm h3 hn hk
  have v2 : dVar 2 [some (.loc n), some (ndD k), some (.loc m)] S = some (.loc m, S) := rfl
  have a0 : aCons (dBin pIx (dVar 1) (dC (.int 0))) aNil [some (.loc n), some (ndD k), some (.loc m)] S = some ([.int (k.1 : Nat)], S) := rfl
  have e1 : dExpr (dMt pAppend (dVar 2) (aCons (dBin pIx (dVar 1) (dC (.int 0))) aNil)) [some (.loc n), some (ndD k), some (.loc m)] S = some (.nx [some (.loc n), some (ndD k), some (.loc m)] (S.set m (.lst (iN acc ++ [.int (k.1 : Nat)])))) := by
    rw [v_expr, v_mt, v2]
    simp only [as, a0, ap]
  have e2 : dBin pLfIx (dVar 0) (dVar 1) [some (.loc n), some (ndD k), some (.loc m)] (S.set m (.lst (iN acc ++ [.int (k.1 : Nat)]))) = some (optN v, S.set m (.lst (iN acc ++ [.int (k.1 : Nat)]))) := ix
  show dSeq _ _ _ _ = _
  rw [v_seq, e1]
  simp only
  rw [v_set, e2, iN_app]
  rfl
theorem lb_loop {n m : Nat} {C : Cm} (hn : (C.map (·.1)).Nodup) (ne : n ≠ m) {k : Nd} {l : List Nd} (B : Back C k l) : ∀ (f : Nat) (acc : List Nat) (S : Sto), S[n]? = some (cmC C) → S[m]? = some (.lst (iN acc)) → acc.length + l.length < 10000 → l.length < f →
    whileL lbC lbB f [some (.loc n), some (ndD k), some (.loc m)] S = some (.nx [some (.loc n), some .non, some (.loc m)] (S.set m (.lst (iN (acc ++ l.map (·.1)))))) := by
  induction B with
  | @root k h =>
    intro f acc S h1 h2 hz hf
    obtain ⟨f, rfl⟩ : ∃ g, f = g + 2 := ⟨f - 2, by rw [List.length_singleton] at hf; omega⟩
    obtain ⟨t1, t2⟩ := lb_turn hn h h1 h2 ne (by omega)
    have t3 : ∀ T : Sto, lbC [some (.loc n), some .non, some (.loc m)] T = some (.bl false, T) := fun _ => rfl
    unfold whileL
    rw [t1]
    simp only
    rw [t2]
    simp only
    unfold whileL
    rw [show optN none = DV.non from rfl, t3]
    rfl
  | @step k p l h hl ih =>
    intro f acc S h1 h2 hz hf
    rw [List.length_cons] at hz hf
    obtain ⟨f, rfl⟩ : ∃ g, f = g + 1 := ⟨f - 1, by omega⟩
    obtain ⟨t1, t2⟩ := lb_turn hn h h1 h2 ne (by omega)
    have hlt := get_lt h2
    have i := ih f (acc ++ [k.1]) (S.set m (.lst (iN (acc ++ [k.1])))) (by rw [List.getElem?_set_ne (fun e => ne e.symm)]; exact h1) (List.getElem?_set_self hlt) (by simp; omega) (by omega)
    conv => lhs; unfold whileL
    rw [t1]
    simp only
    rw [t2]
    simp only
    rw [show optN (some p) = ndD p from rfl, i, List.set_set, List.map_cons, List.append_assoc]
    rfl
theorem led_by_eq {S : Sto} {n : Nat} {C : Cm} (hn : (C.map (·.1)).Nodup) (h1 : S[n]? = some (cmC C)) {k : Nd} {l : List Nd} (B : Back C k l) (hz : l.length < 5000) :
    F_led_by [.loc n, ndD k] S = some (.loc S.length, S ++ [.lst (iN ((l.map (·.1)).reverse))]) := by
  have hlt := get_lt h1
  have hT : (S ++ [Cell.lst []])[S.length]? = some (.lst (iN [])) := get_len _ _
  have hn1 : (S ++ [Cell.lst []])[n]? = some (cmC C) := by
    rw [List.getElem?_append_left hlt]
    exact h1
  have el := lb_loop hn (by omega : n ≠ S.length) B 100000 [] (S ++ [.lst []]) hn1 hT (by simp; omega) (by omega)
  rw [List.nil_append] at el
  have es : ∀ y x : Cell, (S ++ [y]).set S.length x = S ++ [x] := fun y x => by
    rw [show S.length = S.length + 0 from rfl, n_set]
    rfl
  rw [es] at el
  have s1 : dSet 2 (dPrim pLstM aNil) [some (.loc n), some (ndD k), none] S = some (.nx [some (.loc n), some (ndD k), some (.loc S.length)] (S ++ [.lst []])) := rfl
  have hR : (S ++ [Cell.lst (iN (l.map (·.1)))])[S.length]? = some (.lst (iN (l.map (·.1)))) := get_len _ _
  have s3 : dExpr (dMt pReverse (dVar 2) aNil) [some (.loc n), some .non, some (.loc S.length)] (S ++ [.lst (iN (l.map (·.1)))]) = some (.nx [some (.loc n), some .non, some (.loc S.length)] (S ++ [.lst (iN ((l.map (·.1)).reverse))])) := by
    have v2 : dVar 2 [some (.loc n), some .non, some (.loc S.length)] (S ++ [.lst (iN (l.map (·.1)))]) = some (.loc S.length, S ++ [.lst (iN (l.map (·.1)))]) := rfl
    have rv : pReverse (.loc S.length) [] (S ++ [.lst (iN (l.map (·.1)))]) = some (.non, S ++ [.lst (iN ((l.map (·.1)).reverse))]) := by
      unfold pReverse
      simp only [hR]
      rw [es]
      simp [iN]
    rw [v_expr, v_mt, v2]
    simp only [asL_loc hR, v_nil, rv]
  unfold F_led_by b_led_by runF
  show (match (dSeq _ _ [some (.loc n), some (ndD k), none] S : Option Out) with | some (.rt d S') => some (d, S') | some (.nx _ S') => some (.non, S') | _ => none) = _
  rw [v_seq, s1]
  simp only
  rw [v_seq, show whileL lbC lbB 100000 _ _ = _ from el]
  simp only
  rw [v_seq, s3]
  simp only
  rfl
/-! ### a turn of the search -/
section
variable {S0 : Sto} {C : Cm} {q : List Nd}
def BS (S0 : Sto) (C : Cm) (q : List Nd) : Sto := S0 ++ [cmC C, .lst (q.map ndD)]
theorem bs_c : (BS S0 C q)[S0.length]? = some (cmC C) := n_off (k := 0)
theorem bs_q : (BS S0 C q)[S0.length + 1]? = some (.lst (q.map ndD)) := n_off (k := 1)
theorem bs_setC {C' : Cm} : (BS S0 C q).set S0.length (cmC C') = BS S0 C' q := n_set (k := 0)
theorem bs_setQ {q' : List Nd} : (BS S0 C q).set (S0.length + 1) (.lst (q'.map ndD)) = BS S0 C q' := n_set (k := 1)
theorem in_own_int {ks : List Nat} {x : Nat} {neg : Bool} {S : Sto} : pIn neg (.int x) (.lst .own (iN ks)) S = some (.bl (if neg then !decide (x ∈ ks) else decide (x ∈ ks)), S) := by
  have fl : (iN ks).all flD = true := List.all_eq_true.mpr fun d hd => by
    obtain ⟨n, _, rfl⟩ := List.mem_map.mp hd
    rfl
  have e : inD (.int (x : Nat)) (iN ks) = decide (x ∈ ks) := by
    induction ks with
    | nil => rfl
    | cons k ks ih =>
      have fl2 : (iN ks).all flD = true := List.all_eq_true.mpr fun d hd => by
        obtain ⟨n, _, rfl⟩ := List.mem_map.mp hd
        rfl
      have ih := ih fl2
      unfold inD at ih ⊢
      show (eqF (.int (k : Nat)) (.int (x : Nat)) || (iN ks).any _) = _
      rw [ih]
      by_cases w : k = x
      · subst w
        have : eqF (.int (k : Nat)) (.int (k : Nat)) = true := by simp [eqF]
        rw [this]
        simp
      · have : eqF (.int (k : Nat)) (.int (x : Nat)) = false := by simp [eqF]; omega
        have w2 : ¬ x = k := fun z => w z.symm
        rw [this, Bool.false_or]
        simp [w2]
  unfold pIn
  simp only [asL]
  rw [if_pos ⟨rfl, fl⟩, e]
end
end Lk33

namespace Lk33
open PySem PySem.Spec PyProof.Rows L2 Dn
def sucS (rows : List PRow) (keeps : List Nat) (nm : Str) (k : Nd) : List Nd := match rows[k.1]? with
  | none => []
  | some r => (match beh (tch nm r) k.2 with
    | none => []
    | some s => ((r.led k.1).filter fun t => !decide (t ∈ keeps)).map fun t => (t, s))
def tstS (rows : List PRow) (nm : Str) (k : Nd) : Bool := k.2 && (match rows[k.1]? with
  | some r => decide (tch nm r = "store") || decide (tch nm r = "lay")
  | none => false)
abbrev ES (P CD : DV) (nm : Str) (rows : List PRow) (pl keeps : List Nat) (c : Nat) (x7 x9 x10 x11 x12 : Option DV) : List (Option DV) :=
  [some P, some CD, some (.str nm), some (.lst .own (leadsD rows)), some (.lst .own (iN pl)), some (.lst .own (iN keeps)), some (.loc c), x7, some (.loc (c + 1)), x9, x10, x11, x12]
abbrev inSp : DS := dIfS (dAnd (dBin (pIn true) (dVar 12) (dVar 5)) (dBin (pLfIn true) (dPrim pTup (aCons (dVar 12) (aCons (dVar 11) aNil))) (dVar 6))) (dSeq (dLfSub (dVar 9) (dVar 6) (dPrim pTup (aCons (dVar 12) (aCons (dVar 11) aNil))))
  (dExpr (dMt pAppend (dVar 8) (aCons (dPrim pTup (aCons (dVar 12) (aCons (dVar 11) aNil))) aNil)))) dNext
section
variable {S0 : Sto} {P CD : DV} {nm : Str} {rows : List PRow} {pl keeps : List Nat}
theorem inSp_ok {C : Cm} {q : List Nd} {k : Nd} {s : Bool} {t : Nat} {x7 x10 : Option DV} (hz : C.length < 50000) (hz2 : q.length < 50000) :
    inSp (ES P CD nm rows pl keeps S0.length x7 (some (ndD k)) x10 (some (.bl s)) (some (.int t))) (BS S0 C q) = some (.nx (ES P CD nm rows pl keeps S0.length x7 (some (ndD k)) x10 (some (.bl s)) (some (.int t)))
      (BS S0 (if t ∈ keeps then (C, q) else push k (C, q) (t, s)).1 (if t ∈ keeps then (C, q) else push k (C, q) (t, s)).2)) := by
  let ρ := ES P CD nm rows pl keeps S0.length x7 (some (ndD k)) x10 (some (.bl s)) (some (.int t))
  have h1 : dBin (pIn true) (dVar 12) (dVar 5) ρ (BS S0 C q) = some (.bl (!decide (t ∈ keeps)), BS S0 C q) := in_own_int (neg := true)
  have tp : ∀ S : Sto, dPrim pTup (aCons (dVar 12) (aCons (dVar 11) aNil)) ρ S = some (ndD (t, s), S) := fun S => rfl
  have v6 : ∀ S : Sto, dVar 6 ρ S = some (.loc S0.length, S) := fun S => rfl
  have v8 : ∀ S : Sto, dVar 8 ρ S = some (.loc (S0.length + 1), S) := fun S => rfl
  have v9 : ∀ S : Sto, dVar 9 ρ S = some (ndD k, S) := fun S => rfl
  have h2 : dBin (pLfIn true) (dPrim pTup (aCons (dVar 12) (aCons (dVar 11) aNil))) (dVar 6) ρ (BS S0 C q) = some (.bl (!decide ((t, s) ∈ C.map (·.1))), BS S0 C q) := by
    rw [v_bin, tp]
    simp only [v6]
    exact in_cm bs_c (t, s) true
  show dIfS _ _ _ ρ _ = _
  rw [v_ifS, Dn.v_and, h1]
  by_cases k1 : t ∈ keeps
  · rw [decide_eq_true k1, if_pos k1]
    simp only [Bool.not_true, v_next]
    rfl
  · rw [decide_eq_false k1, if_neg k1]
    simp only [Bool.not_false]
    rw [h2]
    unfold push
    dsimp only
    by_cases k2 : (t, s) ∈ C.map (·.1)
    · rw [decide_eq_true k2, if_pos k2]
      simp only [Bool.not_true, v_next]
      rfl
    · rw [decide_eq_false k2, if_neg k2]
      simp only [Bool.not_false]
      have e1 : dLfSub (dVar 9) (dVar 6) (dPrim pTup (aCons (dVar 12) (aCons (dVar 11) aNil))) ρ (BS S0 C q) = some (.nx ρ (BS S0 (C ++ [((t, s), some k)]) q)) := by
        have st := set_cm (S := BS S0 C q) (n := S0.length) (C := C) (k := (t, s)) (v := some k) bs_c k2 (by omega)
        rw [bs_setC] at st
        unfold dLfSub
        simp only [v9, v6, tp]
        rw [show ndD k = optN (some k) from rfl, st]
      have e2 : dExpr (dMt pAppend (dVar 8) (aCons (dPrim pTup (aCons (dVar 12) (aCons (dVar 11) aNil))) aNil)) ρ (BS S0 (C ++ [((t, s), some k)]) q) = some (.nx ρ (BS S0 (C ++ [((t, s), some k)]) (q ++ [(t, s)]))) := by
        have hq : (BS S0 (C ++ [((t, s), some k)]) q)[S0.length + 1]? = some (.lst (q.map ndD)) := bs_q
        have ap := app_loc (y := ndD (t, s)) hq (by rw [List.length_map]; omega)
        have eq1 : q.map ndD ++ [ndD (t, s)] = (q ++ [(t, s)]).map ndD := by rw [List.map_append] <;> rfl
        rw [eq1, bs_setQ] at ap
        rw [v_expr, v_mt, v8]
        simp only [asL_loc hq, v_cons, v_nil, tp, ap]
      rw [v_seq, e1]
      simp only
      rw [e2]
theorem inSp_loop {k : Nd} {s : Bool} {x7 x10 : Option DV} : ∀ (ts : List Nat) (C : Cm) (q : List Nd) (x12 : Option DV), C.length + ts.length < 40000 → q.length + ts.length < 40000 →
    ∃ y, forL (gSet 12) inSp (iN ts) (ES P CD nm rows pl keeps S0.length x7 (some (ndD k)) x10 (some (.bl s)) x12) (BS S0 C q) = some (.nx (ES P CD nm rows pl keeps S0.length x7 (some (ndD k)) x10 (some (.bl s)) y)
      (BS S0 (((ts.filter fun t => !decide (t ∈ keeps)).map fun t => (t, s)).foldl (push k) (C, q)).1 (((ts.filter fun t => !decide (t ∈ keeps)).map fun t => (t, s)).foldl (push k) (C, q)).2))
  | [], C, q, x12, _, _ => ⟨x12, rfl⟩
  | t :: ts, C, q, x12, h1, h2 => by
    rw [List.length_cons] at h1 h2
    have hb := inSp_ok (S0 := S0) (P := P) (CD := CD) (nm := nm) (rows := rows) (pl := pl) (keeps := keeps) (C := C) (q := q) (k := k) (s := s) (t := t) (x7 := x7) (x10 := x10) (by omega) (by omega)
    have hl : (push k (C, q) (t, s)).1.length ≤ C.length + 1 ∧ (push k (C, q) (t, s)).2.length ≤ q.length + 1 := by
      unfold push
      dsimp only
      split
      · exact ⟨Nat.le_succ _, Nat.le_succ _⟩
      · simp
    show ∃ y, forL (gSet 12) inSp (.int (t : Nat) :: iN ts) _ _ = _
    unfold forL
    simp only [v_gset, ES, List.set_cons_succ, List.set_cons_zero]
    simp only [ES] at hb
    rw [hb]
    simp only
    by_cases k1 : t ∈ keeps
    · rw [if_pos k1]
      obtain ⟨y, ih⟩ := inSp_loop (k := k) (s := s) (x7 := x7) (x10 := x10) ts C q (some (.int t)) (by omega) (by omega)
      refine ⟨y, ?_⟩
      simp only [ES] at ih
      rw [ih, List.filter_cons_of_neg (by simp [k1])]
    · rw [if_neg k1]
      obtain ⟨y, ih⟩ := inSp_loop (k := k) (s := s) (x7 := x7) (x10 := x10) ts (push k (C, q) (t, s)).1 (push k (C, q) (t, s)).2 (some (.int t)) (by omega) (by omega)
      refine ⟨y, ?_⟩
      simp only [ES] at ih
      rw [ih, List.filter_cons_of_pos (by simp [k1]), List.map_cons, List.foldl_cons]
/-! ### the search -/
abbrev spC : DE := dBin pGt (dPrim pLen (aCons (dVar 8) aNil)) (dC (.int 0))
abbrev spB : DS := (dSeq (dSet 9 (dMt pPopAt (dVar 8) (aCons (dC (.int 0)) aNil)))
  (dSeq (dSet 10 (dPrim (cP (pureOf F_touch) []) (aCons (dBin pIx (dBin pIx (dVar 0) (dC (.int 2))) (dBin pIx (dVar 9) (dC (.int 0)))) (aCons (dVar 2) aNil))))
  (dSeq (dIfS (dAnd (dBin pIx (dVar 9) (dC (.int 1))) (dBin (pIn false) (dVar 10) (dPrim pTup (aCons (dC (.str "store")) (aCons (dC (.str "lay")) aNil))))) (dRet (dPrim (cS F_led_by []) (aCons (dVar 6) (aCons (dVar 9) aNil)))) dNext)
  (dSeq (dSet 11 (dPrim (cP (pureOf F_behind) []) (aCons (dVar 10) (aCons (dBin pIx (dVar 9) (dC (.int 1))) aNil))))
  (dIfS (dBin (pIs true) (dVar 11) (dC .non)) (dFor (iSeq (dBin pIx (dVar 3) (dBin pIx (dVar 9) (dC (.int 0))))) (gSet 12) inSp) dNext)))))
theorem ix_own {S : Sto} {ds : List DV} {i : Int} {d : DV} (h : atD ds i = some d) : pIx (.lst .own ds) (.int i) S = some (d, S) := by
  unfold pIx
  simp only [asL, h]
theorem pop_first {S : Sto} {n : Nat} {x : DV} {xs : List DV} (h : S[n]? = some (.lst (x :: xs))) : pPopAt (.loc n) [.int 0] S = some (x, S.set n (.lst xs)) := by
  unfold pPopAt
  simp only [h]
  have e : ixN (x :: xs).length 0 = some 0 := by
    unfold ixN
    simp
  rw [if_pos (by decide), e]
  rfl
theorem spC_ok {C : Cm} {q : List Nd} {x7 x9 x10 x11 x12 : Option DV} : spC (ES P CD nm rows pl keeps S0.length x7 x9 x10 x11 x12) (BS S0 C q) = some (.bl (decide (0 < q.length)), BS S0 C q) := by
  have hlen : pLen [.loc (S0.length + 1)] (BS S0 C q) = some (.int q.length, BS S0 C q) := by
    show (match asL (BS S0 C q) (.loc (S0.length + 1)) with | some ds => some (DV.int ds.length, BS S0 C q) | none => _) = _
    rw [asL_loc bs_q]
    simp only
    rw [List.length_map]
  have v8 : dVar 8 (ES P CD nm rows pl keeps S0.length x7 x9 x10 x11 x12) (BS S0 C q) = some (.loc (S0.length + 1), BS S0 C q) := rfl
  simp only [v_bin, v_prim, v_cons, v_nil, v8, hlen, v_c, v_gt]
  have : decide ((0 : Int) < (q.length : Int)) = decide (0 < q.length) := by
    by_cases w : 0 < q.length
    · rw [decide_eq_true w, decide_eq_true (by omega)]
    · rw [decide_eq_false w, decide_eq_false (by omega)]
  rw [this]
theorem spB_ok {c0 s0 : DV} {C : Cm} {q : List Nd} {k : Nd} {r : PRow} {x7 x9 x10 x11 x12 : Option DV} (hP : P = .tup [c0, s0, .tup (rows.map PRow.d)]) (hr : rows[k.1]? = some r) (hn : (C.map (·.1)).Nodup) (hz : C.length < 20000) (hz2 : q.length < 20000)
    (hb : ∃ l, Back C k l ∧ l.length < 5000) :
    (tstS rows nm k = true ∧ ∃ l, Back C k l ∧ spB (ES P CD nm rows pl keeps S0.length x7 x9 x10 x11 x12) (BS S0 C (k :: q)) = some (.rt (.loc (S0.length + 2)) (BS S0 C q ++ [.lst (iN ((l.map (·.1)).reverse))]))) ∨
    (tstS rows nm k = false ∧ ∃ y9 y10 y11 y12, spB (ES P CD nm rows pl keeps S0.length x7 x9 x10 x11 x12) (BS S0 C (k :: q)) = some (.nx (ES P CD nm rows pl keeps S0.length x7 y9 y10 y11 y12)
      (BS S0 ((sucS rows keeps nm k).foldl (push k) (C, q)).1 ((sucS rows keeps nm k).foldl (push k) (C, q)).2))) := by
  subst hP
  let ρ0 := ES (.tup [c0, s0, .tup (rows.map PRow.d)]) CD nm rows pl keeps S0.length x7 x9 x10 x11 x12
  let ρ1 := ES (.tup [c0, s0, .tup (rows.map PRow.d)]) CD nm rows pl keeps S0.length x7 (some (ndD k)) x10 x11 x12
  let ρ2 := ES (.tup [c0, s0, .tup (rows.map PRow.d)]) CD nm rows pl keeps S0.length x7 (some (ndD k)) (some (.str (tch nm r))) x11 x12
  have s1 : dSet 9 (dMt pPopAt (dVar 8) (aCons (dC (.int 0)) aNil)) ρ0 (BS S0 C (k :: q)) = some (.nx ρ1 (BS S0 C q)) := by
    have hq : (BS S0 C (k :: q))[S0.length + 1]? = some (.lst (ndD k :: q.map ndD)) := bs_q
    have pp := pop_first hq
    rw [bs_setQ] at pp
    have v8 : dVar 8 ρ0 (BS S0 C (k :: q)) = some (.loc (S0.length + 1), BS S0 C (k :: q)) := rfl
    rw [v_set, v_mt, v8]
    simp only [asL_loc hq, v_cons, v_nil, v_c, pp]
    rfl
  have s2 : dSet 10 (dPrim (cP (pureOf F_touch) []) (aCons (dBin pIx (dBin pIx (dVar 0) (dC (.int 2))) (dBin pIx (dVar 9) (dC (.int 0)))) (aCons (dVar 2) aNil))) ρ1 (BS S0 C q) = some (.nx ρ2 (BS S0 C q)) := by
    have hx : ∀ S : Sto, pIx (.tup (rows.map PRow.d)) (.int k.1) S = some (r.d, S) := fun S => ix_tup (atD_nat (by rw [List.getElem?_map, hr] <;> rfl))
    have a1 : dBin pIx (dBin pIx (dVar 0) (dC (.int 2))) (dBin pIx (dVar 9) (dC (.int 0))) ρ1 (BS S0 C q) = some (r.d, BS S0 C q) := hx _
    have v2 : dVar 2 ρ1 (BS S0 C q) = some (.str nm, BS S0 C q) := rfl
    have p1 : plainL [r.d, .str nm] = true := by simp [PRow.plain_d]
    have c1 : cP (pureOf F_touch) [] [r.d, .str nm] (BS S0 C q) = some (.str (tch nm r), BS S0 C q) := by
      simp only [cP_eq, cpL_plain p1, touch_eq]
    rw [v_set, v_prim, v_cons, a1]
    simp only [v_cons, v_nil, v2, c1]
    rfl
  have i1 : dBin pIx (dVar 9) (dC (.int 1)) ρ2 (BS S0 C q) = some (.bl k.2, BS S0 C q) := rfl
  have i2 : dBin (pIn false) (dVar 10) (dPrim pTup (aCons (dC (.str "store")) (aCons (dC (.str "lay")) aNil))) ρ2 (BS S0 C q) = some (.bl (decide (tch nm r = "store") || decide (tch nm r = "lay")), BS S0 C q) := in_2
  have ht : tstS rows nm k = (k.2 && (decide (tch nm r = "store") || decide (tch nm r = "lay"))) := by
    unfold tstS
    rw [hr]
  have go : ∀ (o : Option Out), (dSeq (dIfS (dAnd (dBin pIx (dVar 9) (dC (.int 1))) (dBin (pIn false) (dVar 10) (dPrim pTup (aCons (dC (.str "store")) (aCons (dC (.str "lay")) aNil))))) (dRet (dPrim (cS F_led_by []) (aCons (dVar 6) (aCons (dVar 9) aNil)))) dNext)
      (dSeq (dSet 11 (dPrim (cP (pureOf F_behind) []) (aCons (dVar 10) (aCons (dBin pIx (dVar 9) (dC (.int 1))) aNil))))
      (dIfS (dBin (pIs true) (dVar 11) (dC .non)) (dFor (iSeq (dBin pIx (dVar 3) (dBin pIx (dVar 9) (dC (.int 0))))) (gSet 12) inSp) dNext)) ρ2 (BS S0 C q)) = o → spB ρ0 (BS S0 C (k :: q)) = o := fun o h => by
    show dSeq _ _ _ _ = _
    rw [v_seq, s1]
    simp only
    rw [v_seq, s2]
    simp only
    exact h
  cases hT : tstS rows nm k with
  | true =>
    refine .inl ⟨rfl, ?_⟩
    obtain ⟨l, B, hl⟩ := hb
    refine ⟨l, B, go _ ?_⟩
    rw [ht, Bool.and_eq_true] at hT
    have lb := led_by_eq (S := BS S0 C q) (n := S0.length) hn bs_c B hl
    have bl : (BS S0 C q).length = S0.length + 2 := by
      unfold BS
      rw [List.length_append]
      rfl
    rw [bl] at lb
    have c1 : dPrim (cS F_led_by []) (aCons (dVar 6) (aCons (dVar 9) aNil)) ρ2 (BS S0 C q) = some (.loc (S0.length + 2), BS S0 C q ++ [.lst (iN ((l.map (·.1)).reverse))]) := by
      have a0 : aCons (dVar 6) (aCons (dVar 9) aNil) ρ2 (BS S0 C q) = some ([.loc S0.length, ndD k], BS S0 C q) := rfl
      have c2 : cS F_led_by [] [.loc S0.length, ndD k] (BS S0 C q) = some (.loc (S0.length + 2), BS S0 C q ++ [.lst (iN ((l.map (·.1)).reverse))]) := lb
      rw [v_prim]
      simp only [a0, c2]
    rw [v_seq, v_ifS, Dn.v_and, i1, hT.1]
    simp only
    rw [i2, hT.2]
    simp only
    rw [v_ret, c1]
  | false =>
    refine .inr ⟨rfl, ?_⟩
    have a3 : dIfS (dAnd (dBin pIx (dVar 9) (dC (.int 1))) (dBin (pIn false) (dVar 10) (dPrim pTup (aCons (dC (.str "store")) (aCons (dC (.str "lay")) aNil))))) (dRet (dPrim (cS F_led_by []) (aCons (dVar 6) (aCons (dVar 9) aNil)))) dNext ρ2 (BS S0 C q) = some (.nx ρ2 (BS S0 C q)) := by
      rw [v_ifS, Dn.v_and, i1]
      cases h2 : k.2 with
      | false => simp only [v_next]
      | true =>
        rw [ht, h2, Bool.true_and] at hT
        simp only
        rw [i2, hT]
        simp only [v_next]
    let ρ3 := ES (.tup [c0, s0, .tup (rows.map PRow.d)]) CD nm rows pl keeps S0.length x7 (some (ndD k)) (some (.str (tch nm r))) (some (optB (beh (tch nm r) k.2))) x12
    have a4 : dSet 11 (dPrim (cP (pureOf F_behind) []) (aCons (dVar 10) (aCons (dBin pIx (dVar 9) (dC (.int 1))) aNil))) ρ2 (BS S0 C q) = some (.nx ρ3 (BS S0 C q)) := by
      have a0 : aCons (dVar 10) (aCons (dBin pIx (dVar 9) (dC (.int 1))) aNil) ρ2 (BS S0 C q) = some ([.str (tch nm r), .bl k.2], BS S0 C q) := rfl
      have c1 : cP (pureOf F_behind) [] [.str (tch nm r), .bl k.2] (BS S0 C q) = some (optB (beh (tch nm r) k.2), BS S0 C q) := by
        simp only [cP_eq, cpL_plain (show plainL [DV.str (tch nm r), .bl k.2] = true from rfl), behind_eq]
      rw [v_set, v_prim]
      simp only [a0, c1]
      rfl
    cases hB : beh (tch nm r) k.2 with
    | none =>
      have es : sucS rows keeps nm k = [] := by
        unfold sucS
        rw [hr]
        simp only [hB]
      refine ⟨some (ndD k), some (.str (tch nm r)), some .non, x12, go _ ?_⟩
      rw [v_seq, a3]
      simp only
      rw [v_seq, a4]
      simp only
      have c5 : dBin (pIs true) (dVar 11) (dC .non) ρ3 (BS S0 C q) = some (.bl false, BS S0 C q) := by
        show pIs true (optB (beh (tch nm r) k.2)) .non _ = _
        rw [hB]
        rfl
      rw [v_ifS, c5, es]
      simp only [v_next]
      show some (Out.nx (ES _ _ _ _ _ _ _ _ _ _ (some (optB (beh (tch nm r) k.2))) _) _) = _
      rw [hB]
      rfl
    | some s =>
      have es : sucS rows keeps nm k = ((r.led k.1).filter fun t => !decide (t ∈ keeps)).map fun t => (t, s) := by
        unfold sucS
        rw [hr]
        simp only [hB]
      have hle : (r.led k.1).length ≤ 2 := by cases r <;> simp [PRow.led]
      obtain ⟨y, el⟩ := inSp_loop (S0 := S0) (P := .tup [c0, s0, .tup (rows.map PRow.d)]) (CD := CD) (nm := nm) (rows := rows) (pl := pl) (keeps := keeps) (k := k) (s := s) (x7 := x7) (x10 := some (.str (tch nm r))) (r.led k.1) C q x12 (by omega) (by omega)
      refine ⟨some (ndD k), some (.str (tch nm r)), some (.bl s), y, go _ ?_⟩
      rw [v_seq, a3]
      simp only
      rw [v_seq, a4]
      simp only
      have c5 : dBin (pIs true) (dVar 11) (dC .non) ρ3 (BS S0 C q) = some (.bl true, BS S0 C q) := by
        show pIs true (optB (beh (tch nm r) k.2)) .non _ = _
        rw [hB]
        rfl
      have e3 : ρ3 = ES (.tup [c0, s0, .tup (rows.map PRow.d)]) CD nm rows pl keeps S0.length x7 (some (ndD k)) (some (.str (tch nm r))) (some (.bl s)) x12 := by
        show ES _ _ _ _ _ _ _ _ _ _ (some (optB (beh (tch nm r) k.2))) _ = _
        rw [hB]
        rfl
      have hi : iSeq (dBin pIx (dVar 3) (dBin pIx (dVar 9) (dC (.int 0)))) ρ3 (BS S0 C q) = some (iN (r.led k.1), BS S0 C q) := by
        have hx : pIx (.lst .own (leadsD rows)) (.int k.1) (BS S0 C q) = some (ledD k.1 r, BS S0 C q) := by
          refine ix_own (atD_nat ?_)
          unfold leadsD
          rw [List.getElem?_mapIdx, hr]
          rfl
        have : dBin pIx (dVar 3) (dBin pIx (dVar 9) (dC (.int 0))) ρ3 (BS S0 C q) = some (ledD k.1 r, BS S0 C q) := hx
        rw [iSeq_eq, this]
        rfl
      rw [v_ifS, c5]
      simp only
      rw [v_for, hi]
      simp only
      rw [e3, el, es]
end
end Lk33

namespace Lk33
open PySem PySem.Spec PyProof.Rows L2 Dn
/-! ### the begin -/
def seed (C : Cm) (n : Nat) : Cm := if (n, false) ∈ C.map (·.1) then C else C ++ [((n, false), none)]
abbrev AllNone (C : Cm) : Prop := ∀ e ∈ C, e.2 = none
theorem seed_none {C : Cm} {n : Nat} (h : AllNone C) : AllNone (seed C n) := by
  unfold seed
  split
  · exact h
  · intro e he
    rcases List.mem_append.mp he with z | z
    · exact h e z
    · rw [List.mem_singleton.mp z]
theorem seed_nodup {C : Cm} {n : Nat} (h : (C.map (·.1)).Nodup) : ((seed C n).map (·.1)).Nodup := by
  unfold seed
  split
  · exact h
  · rename_i q
    rw [List.map_append]
    exact List.nodup_append.mpr ⟨h, List.pairwise_singleton _ _, fun a ha b hb e => q (by rw [List.mem_singleton.mp hb] at e; rw [e] at ha; exact ha)⟩
theorem seed_mem {C : Cm} {n : Nat} {k : Nd} : k ∈ (seed C n).map (·.1) ↔ k ∈ C.map (·.1) ∨ k = (n, false) := by
  unfold seed
  split
  · rename_i q
    exact ⟨.inl, fun z => z.elim id fun e => by rw [e]; exact q⟩
  · rw [List.map_append, List.mem_append]
    simp
theorem seed_len {C : Cm} {n : Nat} : (seed C n).length ≤ C.length + 1 := by
  unfold seed
  split
  · omega
  · simp
theorem rp_none {k : Int × Bool} : ∀ {C : Cm}, AllNone C → rpG k (.non : DV) ((C.map (·.1)).map ndK) (C.map fun e => optN e.2) = C.map fun e => optN e.2
  | [], _ => rfl
  | e :: C, h => by
    have ih := rp_none (k := k) (C := C) fun x hx => h x (List.mem_cons_of_mem _ hx)
    have h0 := h e List.mem_cons_self
    rw [List.map_cons, List.map_cons, List.map_cons]
    show (if ndK e.1 = k then DV.non else optN e.2) :: rpG k .non _ _ = _
    rw [ih, h0]
    split <;> rfl
theorem set_seed {S : Sto} {m : Nat} {C : Cm} {n : Nat} (h : S[m]? = some (cmC C)) (hz : C.length < 100000) (ha : AllNone C) : lfSetI (.loc m) (ndD (n, false)) .non S = some (S.set m (cmC (seed C n))) := by
  by_cases q : (n, false) ∈ C.map (·.1)
  · have e : seed C n = C := by
      unfold seed
      rw [if_pos q]
    unfold lfSetI
    simp only [h, cmC, lfKey_nd]
    rw [if_pos (by rw [List.length_map, List.length_map, size_eq]; omega)]
    unfold putKs putVs
    rw [hasK_nd, decide_eq_true q]
    simp only [if_true]
    rw [rp_none ha, e]
  · have := set_cm h (k := (n, false)) (v := none) q hz
    have e : seed C n = C ++ [((n, false), none)] := by
      unfold seed
      rw [if_neg q]
    rw [e]
    exact this
abbrev seB : DS := dLfSub (dC .non) (dVar 6) (dPrim pTup (aCons (dVar 7) (aCons (dC (.bl false)) aNil)))
theorem seed_loop {S0 : Sto} {x0 x1 x2 x3 x4 x5 : Option DV} {tl : List (Option DV)} : ∀ (ns : List Nat) (C : Cm) (x7 : Option DV), C.length + ns.length < 50000 → AllNone C →
    ∃ y, forL (gSet 7) seB (iN ns) (x0 :: x1 :: x2 :: x3 :: x4 :: x5 :: some (.loc S0.length) :: x7 :: tl) (S0 ++ [cmC C]) = some (.nx (x0 :: x1 :: x2 :: x3 :: x4 :: x5 :: some (.loc S0.length) :: y :: tl) (S0 ++ [cmC (ns.foldl seed C)]))
  | [], C, x7, _, _ => ⟨x7, rfl⟩
  | n :: ns, C, x7, hz, ha => by
    rw [List.length_cons] at hz
    have hl := seed_len (C := C) (n := n)
    obtain ⟨y, ih⟩ := seed_loop (S0 := S0) (x0 := x0) (x1 := x1) (x2 := x2) (x3 := x3) (x4 := x4) (x5 := x5) (tl := tl) ns (seed C n) (some (.int n)) (by omega) (seed_none ha)
    have hc : (S0 ++ [cmC C])[S0.length]? = some (cmC C) := n_off (k := 0)
    have st := set_seed (n := n) hc (by omega) ha
    have e : (S0 ++ [cmC C]).set S0.length (cmC (seed C n)) = S0 ++ [cmC (seed C n)] := n_set (k := 0)
    rw [e] at st
    refine ⟨y, ?_⟩
    show forL (gSet 7) seB (.int (n : Nat) :: iN ns) _ _ = _
    unfold forL
    simp only [v_gset, List.set_cons_succ, List.set_cons_zero]
    have hb : seB (x0 :: x1 :: x2 :: x3 :: x4 :: x5 :: some (.loc S0.length) :: some (.int n) :: tl) (S0 ++ [cmC C]) = some (.nx (x0 :: x1 :: x2 :: x3 :: x4 :: x5 :: some (.loc S0.length) :: some (.int n) :: tl) (S0 ++ [cmC (seed C n)])) := by
      have v6 : dVar 6 (x0 :: x1 :: x2 :: x3 :: x4 :: x5 :: some (.loc S0.length) :: some (.int n) :: tl) (S0 ++ [cmC C]) = some (.loc S0.length, S0 ++ [cmC C]) := rfl
      have tp : dPrim pTup (aCons (dVar 7) (aCons (dC (.bl false)) aNil)) (x0 :: x1 :: x2 :: x3 :: x4 :: x5 :: some (.loc S0.length) :: some (.int n) :: tl) (S0 ++ [cmC C]) = some (ndD (n, false), S0 ++ [cmC C]) := rfl
      show dLfSub _ _ _ _ _ = _
      unfold dLfSub
      simp only [v_c, v6, tp, st]
    rw [hb]
    exact ih
theorem seeds_ok : ∀ {ns : List Nat} {C : Cm}, (C.map (·.1)).Nodup → AllNone C → ((ns.foldl seed C).map (·.1)).Nodup ∧ AllNone (ns.foldl seed C) ∧ (∀ k, k ∈ (ns.foldl seed C).map (·.1) ↔ k ∈ C.map (·.1) ∨ ∃ n ∈ ns, k = (n, false)) ∧ (ns.foldl seed C).length ≤ C.length + ns.length
  | [], C, h1, h2 => ⟨h1, h2, fun k => by simp, by simp⟩
  | n :: ns, C, h1, h2 => by
    obtain ⟨i1, i2, i3, i4⟩ := seeds_ok (ns := ns) (seed_nodup (n := n) h1) (seed_none (n := n) h2)
    have hl := seed_len (C := C) (n := n)
    rw [List.foldl_cons]
    refine ⟨i1, i2, fun k => ?_, by rw [List.length_cons]; omega⟩
    rw [i3 k, seed_mem]
    constructor
    · rintro ((h | h) | ⟨m, h3, h4⟩)
      · exact .inl h
      · exact .inr ⟨n, List.mem_cons_self, h⟩
      · exact .inr ⟨m, List.mem_cons_of_mem _ h3, h4⟩
    · rintro (h | ⟨m, h3, h4⟩)
      · exact .inl (.inl h)
      · rcases List.mem_cons.mp h3 with e | e
        · exact .inl (.inr (by rw [← e]; exact h4))
        · exact .inr ⟨m, e, h4⟩
/-! ### the whole search -/
def srcP (pl : List Nat) : List Nd := pl.map fun n => (n, false)
theorem suc_lt {rows : List PRow} {keeps : List Nat} {nm : Str} (hled : ∀ (a : Nat) (r : PRow), rows[a]? = some r → ∀ t ∈ r.led a, t < rows.length) {k t : Nd} (h : t ∈ sucS rows keeps nm k) : t.1 < rows.length := by
  unfold sucS at h
  split at h
  · cases h
  · rename_i r hr
    split at h
    · cases h
    · obtain ⟨x, hx, rfl⟩ := List.mem_map.mp h
      exact hled k.1 r hr x (List.mem_filter.mp hx).1
theorem nodes_le {ks : List Nd} {n : Nat} (hn : ks.Nodup) (h : ∀ k ∈ ks, k.1 < n) : ks.length ≤ 2 * n := by
  have := nodup_len hn (m := (List.range n).map (fun i => (i, false)) ++ (List.range n).map fun i => (i, true)) fun k hk => by
    rw [List.mem_append]
    obtain ⟨i, b⟩ := k
    have := h _ hk
    cases b with
    | false => exact .inl (List.mem_map.mpr ⟨i, List.mem_range.mpr this, rfl⟩)
    | true => exact .inr (List.mem_map.mpr ⟨i, List.mem_range.mpr this, rfl⟩)
  rw [List.length_append, List.length_map, List.length_map, List.length_range] at this
  omega
section
variable {S0 : Sto} {CD c0 s0 : DV} {nm : Str} {rows : List PRow} {pl keeps : List Nat}
theorem sp_loop (hled : ∀ (a : Nat) (r : PRow), rows[a]? = some r → ∀ t ∈ r.led a, t < rows.length) (hn : rows.length ≤ 1000) (x7 : Option DV) : ∀ (m : Nat) (C : Cm) (q : List Nd) (x9 x10 x11 x12 : Option DV),
    Srch (srcP pl) (sucS rows keeps nm) (tstS rows nm) C q → (∀ k ∈ C.map (·.1), k.1 < rows.length) → q.length ≤ C.length → 4 * rows.length + q.length < m + 2 * C.length →
    (∃ k l a b, tstS rows nm k = true ∧ BkOk (srcP pl) (sucS rows keeps nm) k l ∧ l.length ≤ 2 * rows.length ∧ whileL spC spB m (ES (.tup [c0, s0, .tup (rows.map PRow.d)]) CD nm rows pl keeps S0.length x7 x9 x10 x11 x12) (BS S0 C q) = some (.rt (.loc (S0.length + 2)) (S0 ++ [cmC a, .lst b, .lst (iN ((l.map (·.1)).reverse))]))) ∨
    ((∀ k, Rch (srcP pl) (sucS rows keeps nm) k → tstS rows nm k = false) ∧ ∃ ρ' a b, whileL spC spB m (ES (.tup [c0, s0, .tup (rows.map PRow.d)]) CD nm rows pl keeps S0.length x7 x9 x10 x11 x12) (BS S0 C q) = some (.nx ρ' (S0 ++ [cmC a, .lst b])))
  | 0, C, q, x9, x10, x11, x12, A, lt, ql, hm => by
    have := nodes_le A.nd lt
    rw [List.length_map] at this
    omega
  | m + 1, C, q, x9, x10, x11, x12, A, lt, ql, hm => by
    have hC := nodes_le A.nd lt
    rw [List.length_map] at hC
    have hc := spC_ok (S0 := S0) (P := .tup [c0, s0, .tup (rows.map PRow.d)]) (CD := CD) (nm := nm) (rows := rows) (pl := pl) (keeps := keeps) (C := C) (q := q) (x7 := x7) (x9 := x9) (x10 := x10) (x11 := x11) (x12 := x12)
    cases q with
    | nil =>
      refine .inr ⟨fun k hk => (srch_all A hk).2, ES (.tup [c0, s0, .tup (rows.map PRow.d)]) CD nm rows pl keeps S0.length x7 x9 x10 x11 x12, C, [], ?_⟩
      unfold whileL
      rw [hc]
      rfl
    | cons k q =>
      rw [decide_eq_true (by simp)] at hc
      have hk : k ∈ C.map (·.1) := A.qs k List.mem_cons_self
      have hr : rows[k.1]? = some (rows[k.1]'(lt k hk)) := List.getElem?_eq_getElem _
      generalize rows[k.1]'(lt k hk) = r at hr
      obtain ⟨l0, b1, b2, b3⟩ := back_key A hk
      rw [List.length_cons] at ql hm
      rcases spB_ok (S0 := S0) (P := .tup [c0, s0, .tup (rows.map PRow.d)]) (CD := CD) (nm := nm) (pl := pl) (keeps := keeps) (q := q) (x7 := x7) (x9 := x9) (x10 := x10) (x11 := x11) (x12 := x12) rfl hr A.nd (by omega) (by omega) ⟨l0, b1, by omega⟩ with ⟨ht, l, B, e⟩ | ⟨ht, y9, y10, y11, y12, e⟩
      · have bk : ∀ {k : Nd} {l : List Nd}, Back C k l → ∃ l', l' = l ∧ BkOk (srcP pl) (sucS rows keeps nm) k l := fun {k l} B => by
          induction B with
          | root h => exact ⟨_, rfl, .root (A.root _ h)⟩
          | step h _ ih =>
            obtain ⟨_, _, ih⟩ := ih
            obtain ⟨i, hi⟩ := List.getElem?_of_mem h
            exact ⟨_, rfl, .step (A.par i _ _ hi).1 ih⟩
        have uniq : ∀ {k : Nd} {l : List Nd}, Back C k l → ∀ {l2 : List Nd}, Back C k l2 → l = l2 := fun {k l} B => by
          have same : ∀ {k : Nd} {v w : Option Nd}, (k, v) ∈ C → (k, w) ∈ C → v = w := fun {k v w} h1 h2 => by
            obtain ⟨i, hi⟩ := List.getElem?_of_mem h1
            obtain ⟨j, hj⟩ := List.getElem?_of_mem h2
            have e1 : (C.map (·.1))[i]? = some k := by rw [List.getElem?_map, hi]; rfl
            have e2 : (C.map (·.1))[j]? = some k := by rw [List.getElem?_map, hj]; rfl
            have ij : i = j := (List.getElem?_inj (List.getElem?_eq_some_iff.mp e1).1 A.nd).mp (e1.trans e2.symm)
            rw [ij, hj] at hi
            cases hi
            rfl
          induction B with
          | root h =>
            intro l2 B2
            cases B2 with
            | root h2 => rfl
            | step h2 _ => cases same h h2
          | step h _ ih =>
            intro l2 B2
            cases B2 with
            | root h2 => cases same h h2
            | step h2 b => cases same h h2; rw [ih b]
        obtain ⟨_, _, bo⟩ := bk B
        have el := uniq B b1
        refine .inl ⟨k, l, C, q.map ndD, ht, bo, by rw [el]; omega, ?_⟩
        unfold whileL
        rw [hc]
        simp only
        rw [e]
        simp only [BS, List.append_assoc]
        rfl
      · obtain ⟨A', len⟩ := srch_step A ht
        have lt' : ∀ x ∈ ((sucS rows keeps nm k).foldl (push k) (C, q)).1.map (·.1), x.1 < rows.length := fun x hx => by
          rcases push_all.mp hx with z | z
          · exact lt x z
          · exact suc_lt hled z
        have hge : C.length ≤ ((sucS rows keeps nm k).foldl (push k) (C, q)).1.length := by
          have := nodup_len A.nd (m := ((sucS rows keeps nm k).foldl (push k) (C, q)).1.map (·.1)) fun x hx => push_all.mpr (.inl hx)
          rwa [List.length_map, List.length_map] at this
        have ih := sp_loop hled hn x7 m ((sucS rows keeps nm k).foldl (push k) (C, q)).1 ((sucS rows keeps nm k).foldl (push k) (C, q)).2 y9 y10 y11 y12 A' lt' (by omega) (by omega)
        have step : whileL spC spB (m + 1) (ES (.tup [c0, s0, .tup (rows.map PRow.d)]) CD nm rows pl keeps S0.length x7 x9 x10 x11 x12) (BS S0 C (k :: q)) = whileL spC spB m (ES (.tup [c0, s0, .tup (rows.map PRow.d)]) CD nm rows pl keeps S0.length x7 y9 y10 y11 y12) (BS S0 ((sucS rows keeps nm k).foldl (push k) (C, q)).1 ((sucS rows keeps nm k).foldl (push k) (C, q)).2) := by
          conv => lhs; unfold whileL
          rw [hc]
          simp only
          rw [e]
        rw [step]
        exact ih
end
end Lk33

namespace Lk33
open PySem PySem.Spec PyProof.Rows L2 Dn
abbrev PD (cells shelves : List (Str × Int × Bool)) (rows : List PRow) : DV := .tup [.tup (cells.map tD), .tup (shelves.map tD), .tup (rows.map PRow.d)]
theorem cut1 (xs : List DV) : Dn.cutD xs (some 1) none = xs.drop 1 := by
  unfold Dn.cutD
  rw [show HT.sIx xs.length xs.length none = xs.length from rfl]
  cases xs with
  | nil => rfl
  | cons x xs =>
    rw [show HT.sIx (x :: xs).length 0 (some 1) = 1 by
      show min (1 : Int).toNat (x :: xs).length = 1
      rw [List.length_cons]
      simp]
    exact List.take_of_length_le (by simp)
/-- what spoilt tells -/
inductive SpRes (S0 : Sto) (cells shelves : List (Str × Int × Bool)) (rows : List PRow) (keeps : List Nat) (nm : Str) : DV → Sto → Prop
  | twin (h : mayL nm (cells ++ shelves) = false) : SpRes S0 cells shelves rows keeps nm .non S0
  | none {a : Cm} {b : List DV} (h : mayL nm (cells ++ shelves) = true) (hn : ∀ k, Rch (srcP (0 :: keeps)) (sucS rows keeps nm) k → tstS rows nm k = false) : SpRes S0 cells shelves rows keeps nm .non (S0 ++ [cmC a, .lst b])
  | way {a : Cm} {b : List DV} {k : Nd} {l : List Nd} (h : mayL nm (cells ++ shelves) = true) (ht : tstS rows nm k = true) (hb : BkOk (srcP (0 :: keeps)) (sucS rows keeps nm) k l) (hl : l.length ≤ 2 * rows.length) :
    SpRes S0 cells shelves rows keeps nm (.loc (S0.length + 2)) (S0 ++ [cmC a, .lst b, .lst (iN ((l.map (·.1)).reverse))])
theorem pd_plain {cells shelves : List (Str × Int × Bool)} {rows : List PRow} : plain (PD cells shelves rows) = true := by
  have h1 : plainL (cells.map tD) = true := tD_plain
  have h2 : plainL (shelves.map tD) = true := tD_plain
  have h3 : plainL (rows.map PRow.d) = true := rows_plainW
  simp [h1, h2, h3]
theorem spoilt_ok (S0 : Sto) (cells shelves : List (Str × Int × Bool)) (rows : List PRow) (b : DV) (ks : List (Nat × DV)) (nm : Str) (hb : plain b = true) (hks : ∀ k ∈ ks, plain k.2 = true) (hz : cells.length + shelves.length < 1000)
    (hled : ∀ (a : Nat) (r : PRow), rows[a]? = some r → ∀ t ∈ r.led a, t < rows.length) (hn : rows.length ≤ 1000) (h0 : 0 < rows.length) (hkz : ks.length < 1000) (hk : ∀ k ∈ ks, k.1 < rows.length) :
    ∃ d S', F_spoilt [PD cells shelves rows, cdD b ks, .str nm] S0 = some (d, S') ∧ SpRes S0 cells shelves rows (ks.map (·.1)) nm d S' := by
  let P := PD cells shelves rows
  let CD := cdD b ks
  have pP : plain P = true := pd_plain
  have pC : plain CD = true := cdD_plain hb hks
  have cm : ∀ S : Sto, cP (pureOf F_may_spoil) [] [P, .str nm] S = some (.bl (mayL nm (cells ++ shelves)), S) := fun S => by
    have p : plainL [P, .str nm] = true := by simp [pP]
    have e : pureOf F_may_spoil [P, .str nm] = some (.bl (mayL nm (cells ++ shelves))) := may_eq cells shelves (.tup (rows.map PRow.d)) nm hz
    simp only [cP_eq, cpL_plain p, e]
  have cw : ∀ S : Sto, cP (pureOf F_ways) [] [P] S = some (.lst .own (leadsD rows), S) := fun S => by
    have p : plainL [P] = true := by simp [pP]
    have e : pureOf F_ways [P] = some (.lst .own (leadsD rows)) := nways_eq (.tup (cells.map tD)) (.tup (shelves.map tD)) rows hn
    simp only [cP_eq, cpL_plain p, e]
  have cp : ∀ S : Sto, cP (pureOf F_place_rows) [] [CD] S = some (.lst .own (iN (0 :: ks.map (·.1))), S) := fun S => by
    have p : plainL [CD] = true := by simp [pC]
    have e : pureOf F_place_rows [CD] = some (.lst .own (iN (0 :: ks.map (·.1)))) := places_eq b ks hkz
    simp only [cP_eq, cpL_plain p, e]
  let pl := 0 :: ks.map (·.1)
  let kp := ks.map (·.1)
  let N (x3 x4 x5 x6 x7 x8 : Option DV) : List (Option DV) := [some P, some CD, some (.str nm), x3, x4, x5, x6, x7, x8, none, none, none, none]
  have c0 : dPrim (cP (pureOf F_may_spoil) []) (aCons (dVar 0) (aCons (dVar 2) aNil)) (N none none none none none none) S0 = some (.bl (mayL nm (cells ++ shelves)), S0) := by
    have a0 : aCons (dVar 0) (aCons (dVar 2) aNil) (N none none none none none none) S0 = some ([P, .str nm], S0) := rfl
    rw [v_prim]
    simp only [a0, cm]
  cases hm : mayL nm (cells ++ shelves) with
  | false =>
    refine ⟨.non, S0, ?_, .twin hm⟩
    unfold F_spoilt b_spoilt runF
    show (match (dSeq _ _ (N none none none none none none) S0 : Option Out) with | some (.rt d S') => some (d, S') | some (.nx _ S') => some (.non, S') | _ => none) = _
    rw [v_seq, v_ifS, Dn.v_not, c0, hm]
    rfl
  | true =>
    have s0 : dIfS (dNot (dPrim (cP (pureOf F_may_spoil) []) (aCons (dVar 0) (aCons (dVar 2) aNil)))) (dRet (dC .non)) dNext (N none none none none none none) S0 = some (.nx (N none none none none none none) S0) := by
      rw [v_ifS, Dn.v_not, c0, hm]
      rfl
    have s1 : dSet 3 (dPrim (cP (pureOf F_ways) []) (aCons (dVar 0) aNil)) (N none none none none none none) S0 = some (.nx (N (some (.lst .own (leadsD rows))) none none none none none) S0) := by
      have a0 : aCons (dVar 0) aNil (N none none none none none none) S0 = some ([P], S0) := rfl
      rw [v_set, v_prim]
      simp only [a0, cw]
      rfl
    have s2 : dSet 4 (dPrim (cP (pureOf F_place_rows) []) (aCons (dVar 1) aNil)) (N (some (.lst .own (leadsD rows))) none none none none none) S0 = some (.nx (N (some (.lst .own (leadsD rows))) (some (.lst .own (iN pl))) none none none none) S0) := by
      have a0 : aCons (dVar 1) aNil (N (some (.lst .own (leadsD rows))) none none none none none) S0 = some ([CD], S0) := rfl
      rw [v_set, v_prim]
      simp only [a0, cp]
      rfl
    have s3 : dSet 5 (dSl pSl (dVar 4) (oSome (dC (.int 1))) oNone) (N (some (.lst .own (leadsD rows))) (some (.lst .own (iN pl))) none none none none) S0 = some (.nx (N (some (.lst .own (leadsD rows))) (some (.lst .own (iN pl))) (some (.lst .own (iN kp))) none none none) S0) := by
      have e : pSl (.lst .own (iN pl)) (some 1) none S0 = some (.lst .own (iN kp), S0) := by
        rw [v_slL, cut1]
        rfl
      have : dSl pSl (dVar 4) (oSome (dC (.int 1))) oNone (N (some (.lst .own (leadsD rows))) (some (.lst .own (iN pl))) none none none none) S0 = some (.lst .own (iN kp), S0) := e
      rw [v_set, this]
      rfl
    let S1 : Sto := S0 ++ [cmC []]
    have s4 : dSet 6 dLfNew (N (some (.lst .own (leadsD rows))) (some (.lst .own (iN pl))) (some (.lst .own (iN kp))) none none none) S0 = some (.nx (N (some (.lst .own (leadsD rows))) (some (.lst .own (iN pl))) (some (.lst .own (iN kp))) (some (.loc S0.length)) none none) S1) := rfl
    obtain ⟨y7, el⟩ := seed_loop (S0 := S0) (x0 := some P) (x1 := some CD) (x2 := some (.str nm)) (x3 := some (.lst .own (leadsD rows))) (x4 := some (.lst .own (iN pl))) (x5 := some (.lst .own (iN kp))) (tl := [none, none, none, none, none]) pl [] none (by
      show ([] : Cm).length + (0 :: ks.map (·.1)).length < _
      simp
      omega) (fun e he => nomatch he)
    obtain ⟨z1, z2, z3, z4⟩ := seeds_ok (ns := pl) (C := []) List.nodup_nil (fun e he => nomatch he)
    have hkeys : ∀ k, k ∈ (pl.foldl seed []).map (·.1) ↔ k ∈ srcP pl := fun k => by
      rw [z3 k]
      constructor
      · rintro (h | ⟨n, h1, h2⟩)
        · exact absurd h (by simp)
        · exact List.mem_map.mpr ⟨n, h1, h2.symm⟩
      · intro h
        obtain ⟨n, h1, h2⟩ := List.mem_map.mp h
        exact .inr ⟨n, h1, h2.symm⟩
    have z4' : (pl.foldl seed []).length ≤ ks.length + 1 := by
      have : ([] : Cm).length + pl.length = ks.length + 1 := by
        show 0 + (0 :: ks.map (·.1)).length = _
        simp
      omega
    generalize pl.foldl seed [] = C0 at el z1 z2 hkeys z4'
    have hlt : ∀ k ∈ C0.map (·.1), k.1 < rows.length := fun k h => by
      obtain ⟨n, h1, rfl⟩ := List.mem_map.mp ((hkeys k).mp h)
      rcases List.mem_cons.mp h1 with e | e
      · rw [e]; exact h0
      · obtain ⟨kk, hkk, rfl⟩ := List.mem_map.mp e
        exact hk kk hkk
    let q0 := C0.map (·.1)
    have A0 : Srch (srcP pl) (sucS rows kp nm) (tstS rows nm) C0 q0 := ⟨z1, fun s hs => (hkeys s).mpr hs, fun k h => (hkeys k).mp (List.mem_map.mpr ⟨_, h, rfl⟩), (fun i k p h => by
      have := z2 _ (List.mem_of_getElem? h)
      cases this), fun k h => h, fun k h1 h2 => absurd h1 h2⟩
    have s6 : dSet 8 (dPrim pLfList (aCons (dVar 6) aNil)) (N (some (.lst .own (leadsD rows))) (some (.lst .own (iN pl))) (some (.lst .own (iN kp))) (some (.loc S0.length)) y7 none) (S0 ++ [cmC C0]) = some (.nx (ES P CD nm rows pl kp S0.length y7 none none none none) (BS S0 C0 q0)) := by
      have hc : (S0 ++ [cmC C0])[S0.length]? = some (cmC C0) := n_off (k := 0)
      have pl1 : pLfList [.loc S0.length] (S0 ++ [cmC C0]) = some (.loc (S0.length + 1), BS S0 C0 q0) := by
        unfold pLfList lfOf
        simp only [hc]
        have l1 : (S0 ++ [cmC C0]).length = S0.length + 1 := by rw [List.length_append]; rfl
        show some (DV.loc (S0 ++ [cmC C0]).length, S0 ++ [cmC C0] ++ [Cell.lst (((C0.map (·.1)).map ndK).map lfD)]) = _
        rw [l1, List.append_assoc, List.map_map]
        rfl
      have a0 : aCons (dVar 6) aNil (N (some (.lst .own (leadsD rows))) (some (.lst .own (iN pl))) (some (.lst .own (iN kp))) (some (.loc S0.length)) y7 none) (S0 ++ [cmC C0]) = some ([.loc S0.length], S0 ++ [cmC C0]) := rfl
      rw [v_set, v_prim]
      simp only [a0, pl1]
      rfl
    have hCl : C0.length ≤ 2 * rows.length := by
      have := nodes_le z1 hlt
      rwa [List.length_map] at this
    have run := sp_loop (S0 := S0) (CD := CD) (c0 := .tup (cells.map tD)) (s0 := .tup (shelves.map tD)) (nm := nm) (rows := rows) (pl := pl) (keeps := kp) hled hn y7 100000 C0 q0 none none none none A0 hlt (by show (C0.map (·.1)).length ≤ _; rw [List.length_map]; exact Nat.le_refl _) (by show _ + (C0.map (·.1)).length < _; rw [List.length_map]; omega)
    have all : ∀ (o : Option Out) (w : Option (DV × Sto)), (dSeq (whileL spC spB 100000) (dRet (dC .non)) (ES P CD nm rows pl kp S0.length y7 none none none none) (BS S0 C0 q0)) = o → (match o with | some (.rt d S') => some (d, S') | some (.nx _ S') => some (.non, S') | _ => none) = w → F_spoilt [P, CD, .str nm] S0 = w := fun o w h1 h2 => by
      unfold F_spoilt b_spoilt runF
      show (match (dSeq _ _ (N none none none none none none) S0 : Option Out) with | some (.rt d S') => some (d, S') | some (.nx _ S') => some (.non, S') | _ => none) = _
      rw [v_seq, s0]
      simp only
      rw [v_seq, s1]
      simp only
      rw [v_seq, s2]
      simp only
      rw [v_seq, s3]
      simp only
      rw [v_seq, s4]
      simp only
      have hi : ∀ S : Sto, iSeq (dVar 4) (N (some (.lst .own (leadsD rows))) (some (.lst .own (iN pl))) (some (.lst .own (iN kp))) (some (.loc S0.length)) none none) S = some (iN pl, S) := fun _ => rfl
      rw [v_seq, v_for, hi]
      simp only
      rw [show forL (gSet 7) seB (iN pl) (N (some (.lst .own (leadsD rows))) (some (.lst .own (iN pl))) (some (.lst .own (iN kp))) (some (.loc S0.length)) none none) S1 = _ from el]
      simp only
      rw [v_seq, show dSet 8 _ _ _ = _ from s6]
      simp only
      rw [show (dSeq (whileL spC spB 100000) (dRet (dC .non)) (ES P CD nm rows pl kp S0.length y7 none none none none) (BS S0 C0 q0)) = o from h1]
      exact h2
    rcases run with ⟨k, l, a, bb, ht, bo, hl, e⟩ | ⟨hno, ρ', a, bb, e⟩
    · refine ⟨_, _, all _ _ (by rw [v_seq, e]) rfl, .way hm ht bo hl⟩
    · refine ⟨_, _, all _ _ (by rw [v_seq, e]) rfl, .none hm hno⟩
end Lk33

namespace Lk33
open PySem PySem.Spec PyProof.Rows L2 Dn
/-! ### what a way is -/
def tkR (nm : Str) (r : PRow) : Bool := decide (tch nm r = "load") || decide (tch nm r = "take")
def ptR (nm : Str) (r : PRow) : Bool := decide (tch nm r = "store") || decide (tch nm r = "lay")
def atB (rows : List PRow) (p : PRow → Bool) (x : Nat) : Bool := match rows[x]? with
  | some r => p r
  | none => false
structure WayOk (rows : List PRow) (pl keeps : List Nat) (w : List Nat) : Prop where
  first : ∀ x, w[0]? = some x → x ∈ pl
  next : ∀ (i x y : Nat), w[i]? = some x → w[i + 1]? = some y → y ∉ keeps ∧ ∃ r, rows[x]? = some r ∧ y ∈ r.led x
  lt : ∀ x ∈ w, x < rows.length
def stR (nm : Str) (r : PRow) : Bool := decide (tch nm r = "store")
structure Flag (rows : List PRow) (nm : Str) (w : List Nat) (s : Bool) : Prop where
  yes : s = true → ∃ j x, j + 1 < w.length ∧ w[j]? = some x ∧ atB rows (tkR nm) x = true ∧ ∀ (i y : Nat), i < j → w[i]? = some y → atB rows (tkR nm) y = false ∧ atB rows (stR nm) y = false
  no : s = false → ∀ (i y : Nat), i + 1 < w.length → w[i]? = some y → atB rows (tkR nm) y = false ∧ atB rows (stR nm) y = false
theorem way_props {rows : List PRow} {pl keeps : List Nat} {nm : Str} (hled : ∀ (a : Nat) (r : PRow), rows[a]? = some r → ∀ t ∈ r.led a, t < rows.length) (hpl : ∀ n ∈ pl, n < rows.length) {k : Nd} {l : List Nd} (B : BkOk (srcP pl) (sucS rows keeps nm) k l) :
    ∃ w0, (l.map (·.1)).reverse = w0 ++ [k.1] ∧ WayOk rows pl keeps (w0 ++ [k.1]) ∧ Flag rows nm (w0 ++ [k.1]) k.2 := by
  induction B with
  | @root k h =>
    obtain ⟨n, hn, rfl⟩ := List.mem_map.mp h
    refine ⟨[], rfl, ⟨fun x hx => ?_, fun i x y h1 h2 => ?_, fun x hx => ?_⟩, ⟨fun h => (nomatch h), fun _ i y h1 h2 => ?_⟩⟩
    · cases hx
      exact hn
    · simp at h2
    · have e : x = n := by simpa using hx
      rw [e]
      exact hpl n hn
    · simp at h1
  | @step k p l h hl ih =>
    obtain ⟨w0, e0, W, Fl⟩ := ih
    have hs := h
    unfold sucS at hs
    cases hr : rows[p.1]? with
    | none => rw [hr] at hs; cases hs
    | some r =>
      rw [hr] at hs
      simp only at hs
      cases hB : beh (tch nm r) p.2 with
      | none => rw [hB] at hs; cases hs
      | some s =>
        rw [hB] at hs
        simp only at hs
        obtain ⟨t, ht, hk⟩ := List.mem_map.mp hs
        obtain ⟨ht1, ht2⟩ := List.mem_filter.mp ht
        have ht3 : t ∉ keeps := by simpa using ht2
        subst hk
        have lenp : (w0 ++ [p.1]).length = w0.length + 1 := by simp
        have atp : (w0 ++ [p.1])[w0.length]? = some p.1 := get_len _ _
        have low : ∀ {i : Nat}, i < w0.length + 1 → (w0 ++ [p.1] ++ [t])[i]? = (w0 ++ [p.1])[i]? := fun {i} hi => List.getElem?_append_left (by rw [lenp]; exact hi)
        have top : (w0 ++ [p.1] ++ [t])[w0.length + 1]? = some t := by
          rw [← lenp]
          exact get_len _ _
        have len2 : (w0 ++ [p.1] ++ [t]).length = w0.length + 2 := by simp
        refine ⟨w0 ++ [p.1], by rw [List.map_cons, List.reverse_cons, e0], ⟨fun x hx => ?_, fun i x y h1 h2 => ?_, fun x hx => ?_⟩, ?_⟩
        · rw [low (by omega)] at hx
          exact W.first x hx
        · have hi : i + 1 < w0.length + 2 := by rw [← len2]; exact (List.getElem?_eq_some_iff.mp h2).1
          rw [low (by omega)] at h1
          by_cases q : i + 1 < w0.length + 1
          · rw [low q] at h2
            exact W.next i x y h1 h2
          · obtain rfl : i = w0.length := by omega
            rw [top] at h2
            rw [atp] at h1
            cases h1
            cases h2
            exact ⟨ht3, r, hr, ht1⟩
        · rcases List.mem_append.mp hx with z | z
          · exact W.lt x z
          · rw [List.mem_singleton.mp z]
            exact hled p.1 r hr t ht1
        · have tkp : atB rows (tkR nm) p.1 = tkR nm r := by unfold atB; rw [hr]
          have stp : atB rows (stR nm) p.1 = stR nm r := by unfold atB; rw [hr]
          have hB' := hB
          unfold beh at hB'
          have hs : s = (p.2 || tkR nm r) := by
            split at hB'
            · cases hB'
            · exact (Option.some.inj hB').symm
          have nst : p.2 = false → stR nm r = false := fun q => by
            split at hB'
            · cases hB'
            · rename_i w
              unfold stR
              exact decide_eq_false fun z => w ⟨z, q⟩
          cases hp : p.2 with
          | true =>
            obtain ⟨j, x, j1, j2, j3, j4⟩ := Fl.yes hp
            rw [lenp] at j1
            refine ⟨fun _ => ⟨j, x, by rw [len2]; omega, by rw [low (by omega)]; exact j2, j3, fun i y hi hy => j4 i y hi (by rw [low (by omega)] at hy; exact hy)⟩, fun q => ?_⟩
            rw [hs, hp] at q
            cases q
          | false =>
            rw [hp, Bool.false_or] at hs
            have bef : ∀ (i y : Nat), i < w0.length → (w0 ++ [p.1] ++ [t])[i]? = some y → atB rows (tkR nm) y = false ∧ atB rows (stR nm) y = false := fun i y hi hy => Fl.no hp i y (by rw [lenp]; omega) (by rw [low (by omega)] at hy; exact hy)
            refine ⟨fun q => ⟨w0.length, p.1, by rw [len2]; omega, by rw [low (by omega)]; exact atp, by rw [tkp, ← hs]; exact q, bef⟩, fun q i y hi hy => ?_⟩
            rw [len2] at hi
            by_cases e : i < w0.length
            · exact bef i y e hy
            · obtain rfl : i = w0.length := by omega
              rw [low (by omega), atp] at hy
              cases hy
              exact ⟨by rw [tkp, ← hs]; exact q, by rw [stp]; exact nst hp⟩
/-! ### ranges and those of them that are so -/
theorem filter_first {p : Nat → Bool} {n j : Nat} (hj : j < n) (hp : p j = true) (hb : ∀ i, i < j → p i = false) : ∃ rest, (List.range n).filter p = j :: rest ∧ ∀ i ∈ rest, j < i := by
  obtain ⟨m, rfl⟩ : ∃ m, n = j + (m + 1) := ⟨n - j - 1, by omega⟩
  rw [List.range_add, List.filter_append]
  have e1 : (List.range j).filter p = [] := List.filter_eq_nil_iff.mpr fun i hi => by simp [hb i (List.mem_range.mp hi)]
  rw [e1, List.nil_append, List.range_succ_eq_map, List.map_cons, List.filter_cons_of_pos (by simpa using hp)]
  refine ⟨_, by rw [Nat.add_zero], fun i hi => ?_⟩
  obtain ⟨x, hx, rfl⟩ := List.mem_map.mp (List.mem_filter.mp hi).1
  obtain ⟨y, _, rfl⟩ := List.mem_map.mp hx
  omega
/-! ### what the law asks of a way -/
theorem whole_eq (i : Int) : pureOf F_law_whole [.int i] = some (.bl true) := by
  refine pureOf_of (S' := []) ?_ rfl
  unfold F_law_whole b_law_whole runF
  rfl
theorem ix_bor {S : Sto} {ds : List DV} {i : Int} {d : DV} (h : atD ds i = some d) : pIx (.lst .bor ds) (.int i) S = some (d, S) := by
  unfold pIx
  simp only [asL, h]
theorem atD_last {ds : List DV} {d : DV} : atD (ds ++ [d]) (-1) = some d := by
  have e : ixN (ds ++ [d]).length (-1) = some ds.length := by
    rw [List.length_append, List.length_singleton]
    unfold ixN
    rw [if_neg (by decide), if_pos (by omega)]
    congr 1
    omega
  unfold atD
  rw [e]
  exact get_len _ _
end Lk33

namespace Lk33
open PySem PySem.Spec PyProof.Rows L2 Dn
theorem iN_plain (w : List Nat) : plainL (iN w) = true := plainL_iff.mpr fun d hd => by
  obtain ⟨n, _, rfl⟩ := List.mem_map.mp hd
  rfl
theorem iN_good (w : List Nat) : goodL (iN w) = true ∧ deepL (iN w) = 0 := by
  induction w with
  | nil => exact ⟨rfl, rfl⟩
  | cons n w ih =>
    refine ⟨ih.1, ?_⟩
    show max 0 (deepL (iN w)) = 0
    rw [ih.2] <;> rfl
theorem cpD_bor {S : Sto} {k : LK} {ds : List DV} (h : plainL ds = true) : cpD true S (.lst k ds) = some (.lst k ds) := by
  show mapD true _ (.lst k ds) = _
  unfold mapD
  rw [if_neg (by simp), mapDL_plain h]
theorem eq_nil {S : Sto} {k : LK} {w : List Nat} (neg : Bool) : pEq neg (.lst k (iN w)) (.lst .own []) S = some (.bl (if neg then !decide (w = []) else decide (w = [])), S) := by
  obtain ⟨g1, g2⟩ := iN_good w
  obtain ⟨p, h1, h2, h3⟩ := toPyL_good g1
  have t : toPy (.lst k (iN w)) = some (.list p) := by
    unfold toPy
    rw [h1]
  have s1 : SeqAt.shaped (.list p) = true := by
    unfold SeqAt.shaped
    rw [show (PyData.list p).canLay0 = true from h2, decide_eq_true (show (PyData.list p).depth ≤ 64 from by show PyData.depthAll p + 1 ≤ 64; omega)] <;> rfl
  have e : eqDeep S (.lst k (iN w)) (.lst .own []) = some (PyData.eqv (.list p) (.list [])) := by
    unfold eqDeep
    simp only [cpD_bor (iN_plain w), t, show cpD true S (.lst .own []) = some (.lst .own []) from rfl, show toPy (.lst .own []) = some (.list []) from rfl]
    rw [if_pos ⟨s1, rfl⟩]
  have hp : PyData.eqv (.list p) (.list []) = decide (w = []) := by
    cases w with
    | nil =>
      have : some p = some [] := by rw [← h1] <;> rfl
      cases this
      rfl
    | cons n w =>
      have h1' : toPyL (.int (n : Nat) :: iN w) = some p := h1
      unfold toPyL at h1'
      split at h1'
      · split at h1'
        · cases h1'
          rw [decide_eq_false (by simp)]
          rfl
        · cases h1'
      · cases h1'
  unfold pEq eqD
  rw [show scD (.lst k (iN w)) (.lst .own []) = none by cases w <;> rfl]
  simp only
  rw [e, hp]
/-! ### is_piece -/
section
variable {rows : List PRow} {kp w pl : List Nat} {S : Sto} {K : DV}
theorem rows_plain1 : plain (.tup (rows.map PRow.d)) = true := by
  rw [plain_tup]
  exact rows_plainW
end
end Lk33

namespace Lk33
open PySem PySem.Spec PyProof.Rows L2 Dn
/-! ### what touches, as the law looks -/
abbrev tkC (x : DE) (n : DE) : DE := dAnd (dBin (pIn false) (dBin pIx x (dC (.int 0))) (dPrim pTup (aCons (dC (.str "load")) (aCons (dC (.str "take")) aNil)))) (dBin (pEq false) (dBin pIx x (dC (.int 2))) n)
abbrev ptC (x : DE) (n : DE) : DE := dAnd (dBin (pIn false) (dBin pIx x (dC (.int 0))) (dPrim pTup (aCons (dC (.str "store")) (aCons (dC (.str "lay")) aNil)))) (dBin (pEq false) (dBin pIx x (dC (.int 1))) n)
section
variable {ρ : List (Option DV)} {S : Sto} {x n : DE} {r : PRow} {nm : Str}
theorem tkC_ok (hx : x ρ S = some (r.d, S)) (hn : n ρ S = some (.str nm, S)) : tkC x n ρ S = some (.bl (tkR nm r), S) := by
  have tp : dPrim pTup (aCons (dC (.str "load")) (aCons (dC (.str "take")) aNil)) ρ S = some (.tup [.str "load", .str "take"], S) := rfl
  have ix : ∀ i : Int, dBin pIx x (dC (.int i)) ρ S = pIx r.d (.int i) S := fun i => by
    rw [v_bin, hx]
    rfl
  have kind : ∀ k : Str, pIx r.d (.int 0) S = some (.str k, S) → dBin (pIn false) (dBin pIx x (dC (.int 0))) (dPrim pTup (aCons (dC (.str "load")) (aCons (dC (.str "take")) aNil))) ρ S = some (.bl (decide (k = "load") || decide (k = "take")), S) := fun k h => by
    rw [v_bin, ix, h]
    simp only [tp, in_2]
  have no : ∀ k : Str, pIx r.d (.int 0) S = some (.str k, S) → (decide (k = "load") || decide (k = "take")) = false → tkR nm r = false → tkC x n ρ S = some (.bl (tkR nm r), S) := fun k h1 h2 h3 => by
    show dAnd _ _ _ _ = _
    rw [Dn.v_and, kind k h1, h2, h3]
  have yes : ∀ (k c : Str), pIx r.d (.int 0) S = some (.str k, S) → (decide (k = "load") || decide (k = "take")) = true → pIx r.d (.int 2) S = some (.str c, S) → tkR nm r = decide (c = nm) → tkC x n ρ S = some (.bl (tkR nm r), S) := fun k c h1 h2 h3 h4 => by
    show dAnd _ _ _ _ = _
    rw [Dn.v_and, kind k h1, h2, h4]
    simp only
    rw [v_bin, ix, h3]
    simp only [hn, v_eqS]
  cases r with
  | load b c =>
    refine yes "load" c rfl rfl rfl ?_
    unfold tkR tch
    by_cases q : c = nm <;> simp [q]
  | take b c a =>
    refine yes "take" c rfl rfl rfl ?_
    unfold tkR tch
    by_cases q : c = nm <;> simp [q]
  | store c a =>
    refine no "store" rfl rfl ?_
    unfold tkR tch
    by_cases q : c = nm <;> simp [q]
  | lay c a b =>
    refine no "lay" rfl rfl ?_
    unfold tkR tch
    by_cases q : c = nm <;> simp [q]
  | say a => exact no "say" rfl rfl rfl
  | copy y a => exact no "copy" rfl rfl rfl
  | op y s a b => exact no "op" rfl rfl rfl
  | hear y => exact no "hear" rfl rfl rfl
  | ifr a m => exact no "if" rfl rfl rfl
  | go m => exact no "go" rfl rfl rfl
  | endr a => exact no "end" rfl rfl rfl
theorem ptC_ok (hx : x ρ S = some (r.d, S)) (hn : n ρ S = some (.str nm, S)) : ptC x n ρ S = some (.bl (ptR nm r), S) := by
  have tp : dPrim pTup (aCons (dC (.str "store")) (aCons (dC (.str "lay")) aNil)) ρ S = some (.tup [.str "store", .str "lay"], S) := rfl
  have ix : ∀ i : Int, dBin pIx x (dC (.int i)) ρ S = pIx r.d (.int i) S := fun i => by
    rw [v_bin, hx]
    rfl
  have kind : ∀ k : Str, pIx r.d (.int 0) S = some (.str k, S) → dBin (pIn false) (dBin pIx x (dC (.int 0))) (dPrim pTup (aCons (dC (.str "store")) (aCons (dC (.str "lay")) aNil))) ρ S = some (.bl (decide (k = "store") || decide (k = "lay")), S) := fun k h => by
    rw [v_bin, ix, h]
    simp only [tp, in_2]
  have no : ∀ k : Str, pIx r.d (.int 0) S = some (.str k, S) → (decide (k = "store") || decide (k = "lay")) = false → ptR nm r = false → ptC x n ρ S = some (.bl (ptR nm r), S) := fun k h1 h2 h3 => by
    show dAnd _ _ _ _ = _
    rw [Dn.v_and, kind k h1, h2, h3]
  have yes : ∀ (k c : Str), pIx r.d (.int 0) S = some (.str k, S) → (decide (k = "store") || decide (k = "lay")) = true → pIx r.d (.int 1) S = some (.str c, S) → ptR nm r = decide (c = nm) → ptC x n ρ S = some (.bl (ptR nm r), S) := fun k c h1 h2 h3 h4 => by
    show dAnd _ _ _ _ = _
    rw [Dn.v_and, kind k h1, h2, h4]
    simp only
    rw [v_bin, ix, h3]
    simp only [hn, v_eqS]
  cases r with
  | store c a =>
    refine yes "store" c rfl rfl rfl ?_
    unfold ptR tch
    by_cases q : c = nm <;> simp [q]
  | lay c a b =>
    refine yes "lay" c rfl rfl rfl ?_
    unfold ptR tch
    by_cases q : c = nm <;> simp [q]
  | load b c =>
    refine no "load" rfl rfl ?_
    unfold ptR tch
    by_cases q : c = nm <;> simp [q]
  | take b c a =>
    refine no "take" rfl rfl ?_
    unfold ptR tch
    by_cases q : c = nm <;> simp [q]
  | say a => exact no "say" rfl rfl rfl
  | copy y a => exact no "copy" rfl rfl rfl
  | op y s a b => exact no "op" rfl rfl rfl
  | hear y => exact no "hear" rfl rfl rfl
  | ifr a m => exact no "if" rfl rfl rfl
  | go m => exact no "go" rfl rfl rfl
  | endr a => exact no "end" rfl rfl rfl
end
/-! ### spoils -/
section
variable {rows : List PRow} {w : List Nat} {nm : Str} {sh : Bool} {x4 x5 : Option DV}
end
end Lk33

namespace Lk33
open PySem PySem.Spec PyProof.Rows L2 Dn
/-! ### the law's own search -/
section
variable {rows : List PRow} {kp : List Nat} {st : DV} {nm : Str}
end
end Lk33

namespace Lk33
open PySem PySem.Spec PyProof.Rows L2 Dn
theorem cpL_cons {b : Bool} {S : Sto} {d e : DV} {ds es : List DV} (h : cpD b S d = some e) (hs : cpL b S ds = some es) : cpL b S (d :: ds) = some (e :: es) := by
  have h1 : mapD b (cpN b (S.length + 1) S) d = some e := h
  have h2 : mapDL b (cpN b (S.length + 1) S) ds = some es := hs
  show mapDL b _ (d :: ds) = _
  unfold mapDL
  simp only [h1, h2]
theorem cpL_nil {b : Bool} {S : Sto} : cpL b S [] = some [] := rfl
section
variable {rows : List PRow} {kp : List Nat} {nm : Str}
end
/-! ### told just where there is one -/
end Lk33

namespace Lk33
open PySem PySem.Spec PyProof.Rows L2 Dn
/-! ### the cutting -/
abbrev ksD (ks : List (Nat × List Str)) : List (Nat × DV) := ks.map fun k => (k.1, DV.tup (k.2.map .str))
section
variable {ns : List Int} {P : DV} {ps bg : List Str}
end
end Lk33

namespace Lk33
open PySem PySem.Spec PyProof.Rows L2 Dn
theorem goodStrs {l : List Str} (h : ∀ s ∈ l, IsW s) : goodL (l.map .str) = true ∧ deepL (l.map DV.str) = 0 := by
  induction l with
  | nil => exact ⟨rfl, rfl⟩
  | cons s l ih =>
    obtain ⟨h1, h2⟩ := ih fun c hc => h c (List.mem_cons_of_mem _ hc)
    have h3 := (h s List.mem_cons_self).ok
    refine ⟨?_, ?_⟩
    · show (PyData.strOk s && goodL (l.map .str)) = true
      rw [h1, h3] <;> rfl
    · show max 0 (deepL (l.map .str)) = 0
      rw [h2] <;> rfl
theorem rowGood {bl : List Str} {cells shelves : List (Str × Int × Bool)} {many : Nat} (W : Wrl bl cells shelves) {r : PRow} (h : RowW bl (cells.map (·.1)) (shelves.map (·.1)) many r) : good r.d = true ∧ deep r.d ≤ 1 := by
  have gs : ∀ {s : Str}, s ∈ bl → PyData.strOk s = true := fun {s} hs => (W.bw s hs).ok
  have ga : ∀ {a : Atm}, a ∈ atomsL r → good a.d = true ∧ deep a.d = 0 := fun {a} ha => by
    cases a with
    | n i => exact ⟨rfl, rfl⟩
    | x s => exact ⟨gs ((h.at_ _ ha).2 s rfl), rfl⟩
  have gk : ∀ {cs : List (Str × Int × Bool)} {c : Str}, (∀ d ∈ cs, IsW d.1) → hasK ((cs.map (·.1)).map fun s => (Sum.inr s : Key)) (.inr c) = true → PyData.strOk c = true := fun {cs c} hw hk => by
    unfold hasK at hk
    obtain ⟨k, hk1, hk2⟩ := List.any_eq_true.mp hk
    have hk2 := of_decide_eq_true hk2
    subst hk2
    obtain ⟨s, hs, e⟩ := List.mem_map.mp hk1
    obtain ⟨d, hd, rfl⟩ := List.mem_map.mp hs
    cases e
    exact (hw d hd).ok
  have gg : ∀ {x : Str}, givesL r = some x → PyData.strOk x = true := fun {x} hx => gs (h.gv x hx)
  have hok := h.ok
  have sgn : ∀ {s : Str}, isSign s → PyData.strOk s = true := fun {s} hs => by
    rcases hs with rfl | rfl | rfl | rfl | rfl | rfl | rfl | rfl <;> decide +kernel
  have two : ∀ {ds : List DV}, goodL ds = true → deepL ds = 0 → good (.tup ds) = true ∧ deep (.tup ds) ≤ 1 := fun {ds} h1 h2 => ⟨h1, by show deepL ds + 1 ≤ 1; rw [h2] <;> exact Nat.le_refl _⟩
  have gl : ∀ (d : DV) (ds : List DV), goodL (d :: ds) = (good d && goodL ds) := fun _ _ => rfl
  have gn : goodL [] = true := rfl
  have dl : ∀ (d : DV) (ds : List DV), deepL (d :: ds) = max (deep d) (deepL ds) := fun _ _ => rfl
  have dn : deepL [] = 0 := rfl
  have gS : ∀ s : Str, good (.str s) = PyData.strOk s := fun _ => rfl
  have gI : ∀ i : Int, good (.int i) = true := fun _ => rfl
  have dS : ∀ s : Str, deep (.str s) = 0 := fun _ => rfl
  have dI : ∀ i : Int, deep (.int i) = 0 := fun _ => rfl
  have k1 : PyData.strOk "say" = true := by decide +kernel
  have k2 : PyData.strOk "copy" = true := by decide +kernel
  have k3 : PyData.strOk "op" = true := by decide +kernel
  have k4 : PyData.strOk "load" = true := by decide +kernel
  have k5 : PyData.strOk "store" = true := by decide +kernel
  have k6 : PyData.strOk "take" = true := by decide +kernel
  have k7 : PyData.strOk "lay" = true := by decide +kernel
  have k8 : PyData.strOk "hear" = true := by decide +kernel
  have k9 : PyData.strOk "if" = true := by decide +kernel
  have k10 : PyData.strOk "go" = true := by decide +kernel
  have k11 : PyData.strOk "end" = true := by decide +kernel
  have cW : ∀ d ∈ cells, IsW d.1 := fun d hd => (W.cw d hd).1
  have sW : ∀ d ∈ shelves, IsW d.1 := fun d hd => (W.sw d hd).1
  cases r with
  | say a =>
    have ha := ga (a := a) List.mem_cons_self
    exact two (by simp [gl, gn, gS, k1, ha]) (by simp [dl, dn, dS, ha])
  | copy x a =>
    have ha := ga (a := a) List.mem_cons_self
    have hx := gg rfl
    exact two (by simp [gl, gn, gS, k2, ha, hx]) (by simp [dl, dn, dS, ha])
  | op x s a b =>
    have ha := ga (a := a) List.mem_cons_self
    have hb := ga (a := b) (List.mem_cons_of_mem _ List.mem_cons_self)
    have hx := gg rfl
    have hs := sgn hok.1
    exact two (by simp [gl, gn, gS, k3, ha, hb, hx, hs]) (by simp [dl, dn, dS, ha, hb])
  | load x c =>
    have hx := gg rfl
    have hc := gk cW hok
    exact two (by simp [gl, gn, gS, k4, hx, hc]) (by simp [dl, dn, dS])
  | store c a =>
    have ha := ga (a := a) List.mem_cons_self
    have hc := gk cW hok.1
    exact two (by simp [gl, gn, gS, k5, ha, hc]) (by simp [dl, dn, dS, ha])
  | take x s a =>
    have ha := ga (a := a) List.mem_cons_self
    have hx := gg rfl
    have hc := gk sW hok.1
    exact two (by simp [gl, gn, gS, k6, ha, hx, hc]) (by simp [dl, dn, dS, ha])
  | lay s a b =>
    have ha := ga (a := a) List.mem_cons_self
    have hb := ga (a := b) (List.mem_cons_of_mem _ List.mem_cons_self)
    have hc := gk sW hok.1
    exact two (by simp [gl, gn, gS, k7, ha, hb, hc]) (by simp [dl, dn, dS, ha, hb])
  | hear x =>
    have hx := gg rfl
    exact two (by simp [gl, gn, gS, k8, hx]) (by simp [dl, dn, dS])
  | ifr a n =>
    have ha := ga (a := a) List.mem_cons_self
    exact two (by simp [gl, gn, gS, gI, k9, ha]) (by simp [dl, dn, dS, dI, ha])
  | go n => exact two (by simp [gl, gn, gS, gI, k10]) (by simp [dl, dn, dS, dI])
  | endr a =>
    have ha := ga (a := a) List.mem_cons_self
    exact two (by simp [gl, gn, gS, k11, ha]) (by simp [dl, dn, dS, ha])
theorem rowsGood {rows : List PRow} (h : ∀ r ∈ rows, good r.d = true ∧ deep r.d ≤ 1) : goodL (rows.map PRow.d) = true ∧ deepL (rows.map PRow.d) ≤ 1 := by
  induction rows with
  | nil => exact ⟨rfl, Nat.zero_le _⟩
  | cons r rows ih =>
    obtain ⟨h1, h2⟩ := ih fun r hr => h r (List.mem_cons_of_mem _ hr)
    obtain ⟨k1, k2⟩ := h r List.mem_cons_self
    refine ⟨?_, ?_⟩
    · show (good r.d && goodL (rows.map PRow.d)) = true
      rw [k1, h1] <;> rfl
    · show max (deep r.d) (deepL (rows.map PRow.d)) ≤ 1
      omega
theorem eq_same {S : Sto} {d : DV} (hp : plain d = true) (hg : good d = true) (hd : deep d ≤ 64) (hs : scD d d = none) : pEq false d d S = some (.bl true, S) := by
  obtain ⟨p, h1, h2, h3⟩ := toPy_good hg
  have e := eqDeep_same (S := S) (cpD_plain hp) (cpD_plain hp) h1 h1 h2 (by omega)
  show (match eqD S d d with | some b => some (DV.bl (if (false : Bool) then !b else b), S) | none => none) = _
  unfold eqD
  rw [hs]
  simp only
  rw [e]
  rfl
theorem prog_same {S : Sto} {bl : List Str} {cells shelves : List (Str × Int × Bool)} {rows : List PRow} (P : Prg bl cells shelves rows) : pEq false (prD cells shelves rows) (prD cells shelves rows) S = some (.bl true, S) := by
  obtain ⟨g1, d1⟩ := tD_good (cs := cells) fun c hc => (P.w.cw c hc).1
  obtain ⟨g2, d2⟩ := tD_good (cs := shelves) fun c hc => (P.w.sw c hc).1
  obtain ⟨g3, d3⟩ := rowsGood fun r hr => rowGood P.w (P.rw r hr)
  refine eq_same prD_plain ?_ ?_ rfl
  · show (goodL (cells.map tD) && (goodL (shelves.map tD) && (goodL (rows.map PRow.d) && true))) = true
    rw [g1, g2, g3] <;> rfl
  · show max (deepL (cells.map tD) + 1) (max (deepL (shelves.map tD) + 1) (max (deepL (rows.map PRow.d) + 1) 0)) + 1 ≤ 64
    omega
end Lk33

namespace Lk33
open PySem PySem.Spec PyProof.Rows L2 Dn
/-! ### the pool of names -/
theorem strsD_map : ∀ xs : List Str, strsD (xs.map .str) = some xs
  | [] => rfl
  | x :: xs => by
    show (match strsD (xs.map DV.str) with | some ys => some (x :: ys) | none => none) = _
    rw [strsD_map xs]
end Lk33

namespace Lk33
open PySem PySem.Spec PyProof.Rows L2 Dn
/-! ### an end that is no keeping-place -/
def optI : Option Nat → DV
  | none => .non
  | some i => .int i
/-! ### rows that lead on for ever -/
section
variable {rows : List PRow} {kp : List Nat}
def onE (rows : List PRow) (L : List Nat) (a : Nat) : Bool := match rows[a]? with
  | some r => (r.led a).any fun t => decide (t ∈ L)
  | none => false
theorem blsD_map {α : Type} {f : α → Bool} : ∀ l : List α, blsD (l.map fun x => DV.bl (f x)) = some (l.map f)
  | [] => rfl
  | x :: l => by
    rw [List.map_cons, List.map_cons]
    unfold blsD
    rw [blsD_map l]
/-! ### the dead are put away -/
/-! ### turn by turn -/
/-- a set of rows in which each leads on -/
def OnSet (rows : List PRow) (kp : List Nat) (X : Nat → Prop) : Prop := ∀ a, X a → a ∉ kp ∧ ∃ r, rows[a]? = some r ∧ ∃ t ∈ r.led a, X t
structure ESt (rows : List PRow) (kp : List Nat) (L : List Nat) : Prop where
  nd : L.Nodup
  lt : ∀ a ∈ L, a < rows.length
  nk : ∀ a ∈ L, a ∉ kp
  all : ∀ X : Nat → Prop, OnSet rows kp X → ∀ a, X a → a ∈ L
theorem ESt.step {L : List Nat} (A : ESt rows kp L) : ESt rows kp (L.filter fun x => !decide (x ∈ L.filter fun a => !onE rows L a)) := by
  refine ⟨A.nd.filter _, fun a h => A.lt a (List.mem_filter.mp h).1, fun a h => A.nk a (List.mem_filter.mp h).1, fun X hX a ha => ?_⟩
  have h1 := A.all X hX a ha
  obtain ⟨_, r, hr, t, ht, hXt⟩ := hX a ha
  refine List.mem_filter.mpr ⟨h1, ?_⟩
  have h2 : onE rows L a = true := by
    unfold onE
    rw [hr]
    exact List.any_eq_true.mpr ⟨t, ht, decide_eq_true (A.all X hX t hXt)⟩
  simp [h2]
end
end Lk33

namespace Lk33
open PySem PySem.Spec PyProof.Rows L2 Dn
/-! ### a ring -/
section
variable {rows : List PRow} {kp L : List Nat} {S0 : Sto}
end
end Lk33

namespace Lk33
open PySem PySem.Spec PyProof.Rows L2 Dn
/-! ### the way to a row that reads -/
section
variable {S0 : Sto} {P : DV} {box : Str} {rows : List PRow} {st : Nat}
/-! ### the whole search -/
end
end Lk33

namespace Lk33
open PySem PySem.Spec PyProof.Rows L2 Dn
/-! ### a lost box -/
abbrev sT (l : List Str) : DV := .tup (l.map .str)
section
variable {rows : List PRow} {c0 s0 : DV}
end
end Lk33

namespace Lk33
open PySem PySem.Spec PyProof.Rows L2 Dn
/-! ### the first fault -/
abbrev Thg : Type := Str × Int × Bool
section
variable {cells shelves : List Thg} {rows : List PRow} {bg : List Str} {ks : List (Nat × List Str)}
end
end Lk33

namespace Lk33
open PySem PySem.Spec PyProof.Rows L2 Dn
/-! ### round and round -/
section
variable {rows : List PRow} {kp : List Nat} {s : Nat} {T : Sto}
abbrev gS (T : Sto) (sn lf : List Nat) : Sto := T ++ [sk sn, .lst (iN lf)]
end
end Lk33

namespace Lk33
open PySem PySem.Spec PyProof.Rows L2 Dn
/-! ### the law's looks -/
theorem eq_nilG {S : Sto} {k : LK} {ds : List DV} (neg : Bool) (hp : plainL ds = true) (hg : goodL ds = true) (hd : deepL ds ≤ 60) : pEq neg (.lst k ds) (.lst .own []) S = some (.bl (if neg then !decide (ds = []) else decide (ds = [])), S) := by
  obtain ⟨p, h1, h2, h3⟩ := toPyL_good hg
  have t : toPy (.lst k ds) = some (.list p) := by
    unfold toPy
    rw [h1]
  have s1 : SeqAt.shaped (.list p) = true := by
    unfold SeqAt.shaped
    rw [show (PyData.list p).canLay0 = true from h2, decide_eq_true (show (PyData.list p).depth ≤ 64 from by show PyData.depthAll p + 1 ≤ 64; omega)] <;> rfl
  have e : eqDeep S (.lst k ds) (.lst .own []) = some (PyData.eqv (.list p) (.list [])) := by
    unfold eqDeep
    simp only [cpD_bor hp, t, show cpD true S (.lst .own []) = some (.lst .own []) from rfl, show toPy (.lst .own []) = some (.list []) from rfl]
    rw [if_pos ⟨s1, rfl⟩]
  have hp' : PyData.eqv (.list p) (.list []) = decide (ds = []) := by
    cases ds with
    | nil =>
      have : some p = some [] := by rw [← h1] <;> rfl
      cases this
      rfl
    | cons n w =>
      have h1' := h1
      unfold toPyL at h1'
      split at h1'
      · split at h1'
        · cases h1'
          rw [decide_eq_false (by simp)]
          rfl
        · cases h1'
      · cases h1'
  unfold pEq eqD
  rw [show scD (.lst k ds) (.lst .own []) = none by cases ds <;> rfl]
  simp only
  rw [e, hp']
theorem whole_comp {ρ : List (Option DV)} {i j : Nat} {S : Sto} {w : List Nat} (hi : iSeq (dVar i) ρ S = some (iN w, S)) (hj : j < ρ.length) (hz : w.length < 100000) :
    dPrim pAll (aCons (dLc (iSeq (dVar i)) (gSet j) (dC (.bl true)) (dPrim (cP (pureOf F_law_whole) []) (aCons (dVar j) aNil)) [j]) aNil) ρ S = some (.bl true, S) := by
  have hl : lcL (gSet j) (dC (.bl true)) (dPrim (cP (pureOf F_law_whole) []) (aCons (dVar j) aNil)) (dwipe ρ [j]) (iN w) S = some ((iN w).map fun _ => DV.bl true, S) := lcL_map fun d hd => by
    obtain ⟨n, _, rfl⟩ := List.mem_map.mp hd
    refine ⟨(dwipe ρ [j]).set j (some (.int n)), rfl, rfl, ?_⟩
    have v : dVar j ((dwipe ρ [j]).set j (some (.int (n : Nat)))) S = some (.int n, S) := by
      rw [Dn.v_var, List.getElem?_set_self (by show j < (ρ.set j none).length; rw [List.length_set]; exact hj)]
    rw [v_prim]
    simp only [v_cons, v_nil, v, cP_eq, cpL_plain (show plainL [DV.int (n : Nat)] = true from rfl), whole_eq]
  have e := dLc_of (vs := [j]) hi hl (size_ok (by rw [List.length_map, iN_len]; omega))
  have al : pAll [.lst .own ((iN w).map fun _ => DV.bl true)] S = some (.bl true, S) := by
    have := blsD_map (f := fun _ : DV => true) (iN w)
    unfold pAll
    simp only [asL_lst, this]
    have : ((iN w).map fun _ => true).all id = true := List.all_eq_true.mpr fun b hb => by
      obtain ⟨_, _, rfl⟩ := List.mem_map.mp hb
      rfl
    rw [this]
  rw [v_prim, v_cons, e]
  simp only [v_nil, al]
section
variable {rows : List PRow} {kp w : List Nat} {S : Sto}
/-! ### lacks -/
open Classical in
open Classical in
abbrev lkG : DG := gTupD 2 (gsCons (gSet 3) (gsCons (gSet 4) gsNil))
end
end Lk33

namespace Lk33
open PySem PySem.Spec PyProof.Rows L2 Dn
/-! ### is_lost -/
section
variable {rows : List PRow} {w : List Nat} {CD : DV} {b : Str} {bgn : Bool}
end
end Lk33

namespace Lk33
open PySem PySem.Spec PyProof.Rows L2 Dn
/-! ### facts of a program -/
theorem mayL_of {cs : List (Str × Int × Bool)} (hn : (cs.map (·.1)).Nodup) {c : Str × Int × Bool} (hc : c ∈ cs) : mayL c.1 cs = !c.2.2 := by
  induction cs with
  | nil => cases hc
  | cons d cs ih =>
    rw [List.map_cons, List.nodup_cons] at hn
    unfold mayL
    rcases List.mem_cons.mp hc with e | e
    · subst e
      rw [if_pos rfl]
    · rw [if_neg fun z => hn.1 (List.mem_map.mpr ⟨c, e, z.symm⟩)]
      exact ih hn.2 e
section
variable {bl : List Str} {cells shelves : List Thg} {rows : List PRow}
theorem cell_row (G : Prg bl cells shelves rows) {c : Thg} (hcc : c ∈ cells) : ∀ r ∈ rows, ptR c.1 r = stR c.1 r := fun r hr => by
  have W := G.w
  have ok := (G.rw r hr).ok
  cases r with
  | lay s a b =>
    have hk : hasK ((shelves.map (·.1)).map fun s => (Sum.inr s : Key)) (.inr s) = true := ok.1
    have ne : ¬ s = c.1 := fun z => by
      unfold hasK at hk
      obtain ⟨q, hq1, hq2⟩ := List.any_eq_true.mp hk
      have hq2 := of_decide_eq_true hq2
      subst hq2
      obtain ⟨s', hs', e'⟩ := List.mem_map.mp hq1
      cases e'
      obtain ⟨_, _, dd⟩ := List.nodup_append.mp W.nd
      exact dd c.1 (List.mem_map.mpr ⟨c, hcc, rfl⟩) s hs' z.symm
    unfold ptR stR tch
    simp [ne]
  | store s a =>
    unfold ptR stR tch
    by_cases z : s = c.1 <;> simp [z]
  | load y s =>
    unfold ptR stR tch
    by_cases z : s = c.1 <;> simp [z]
  | take y s a =>
    unfold ptR stR tch
    by_cases z : s = c.1 <;> simp [z]
  | _ => rfl
theorem names_nd (G : Prg bl cells shelves rows) : ((cells ++ shelves).map (·.1)).Nodup := by
  rw [List.map_append]
  exact G.w.nd
/-! ### is_fault -/
variable {bg : List Str} {ks : List (Nat × List Str)} {kp : List Nat}
theorem cd_plain : plain (cdD (sT bg) (ksD ks)) = true := cdD_plain (by rw [plain_tup]; exact plainL_strs) fun k hk => by
  obtain ⟨k0, _, rfl⟩ := List.mem_map.mp hk
  rw [plain_tup]
  exact plainL_strs
end
end Lk33

namespace Lk33
open PySem PySem.Spec PyProof.Rows L2 Dn
/-! ### what is due -/
section
variable {bl : List Str} {cells shelves : List Thg} {rows : List PRow} {bg : List Str} {ks : List (Nat × List Str)} {kp : List Nat}
end
end Lk33

namespace Lk33
open PySem PySem.Spec PyProof.Rows L2 Dn
/-! ### the places that may be needed -/
section
variable {cells shelves : List Thg} {rows : List PRow} {pn : List Str}
end
end Lk33

namespace Lk33
open PySem PySem.Spec PyProof.Rows L2 Dn
theorem cut_strs {S : Sto} {k : LK} {l : List Str} {a : Nat} : pSl (.lst k (l.map .str)) none (some (a : Nat)) S = some (.lst .own ((l.take a).map .str), S) := by
  rw [v_slL]
  unfold Dn.cutD
  rw [HT.sIx_none, List.drop_zero, Nat.sub_zero]
  have e : HT.sIx (l.map DV.str).length (l.map DV.str).length (some (a : Int)) = min a (l.map DV.str).length := by
    show (if (a : Int) < 0 then ((a : Int) + ((l.map DV.str).length : Nat)).toNat else min (a : Int).toNat (l.map DV.str).length) = _
    rw [if_neg (by omega), Int.toNat_natCast]
  rw [e, List.map_take, List.take_eq_take_iff.mpr (show min (min a (l.map DV.str).length) (l.map DV.str).length = min a (l.map DV.str).length by omega)]
/-! ### all twins -/
end Lk33

namespace Lk33
open PySem PySem.Spec PyProof.Rows L2 Dn
/-! ### cuttings that are alike -/
theorem cd_good {bg : List Str} {ks : List (Nat × List Str)} (h1 : ∀ s ∈ bg, IsW s) (h2 : ∀ k ∈ ks, ∀ s ∈ k.2, IsW s) : good (cdD (sT bg) (ksD ks)) = true ∧ deep (cdD (sT bg) (ksD ks)) ≤ 5 ∧ goodL ((ksD ks).map kpD) = true ∧ deepL ((ksD ks).map kpD) ≤ 2 := by
  have g1 := goodStrs h1
  have gk : ∀ l : List (Nat × List Str), (∀ k ∈ l, ∀ s ∈ k.2, IsW s) → goodL ((ksD l).map kpD) = true ∧ deepL ((ksD l).map kpD) ≤ 2 := fun l => by
    induction l with
    | nil => intro _; exact ⟨rfl, Nat.zero_le _⟩
    | cons a l ih =>
      intro h
      have ga := goodStrs (h a List.mem_cons_self)
      obtain ⟨i1, i2⟩ := ih fun k hk => h k (List.mem_cons_of_mem _ hk)
      refine ⟨?_, ?_⟩
      · show ((true && (goodL (a.2.map .str) && true)) && goodL ((ksD l).map kpD)) = true
        rw [ga.1, i1]
        rfl
      · show max (max 0 (max (deepL (a.2.map .str) + 1) 0) + 1) (deepL ((ksD l).map kpD)) ≤ 2
        rw [ga.2]
        omega
  obtain ⟨k1, k2⟩ := gk ks h2
  refine ⟨?_, ?_, k1, k2⟩
  · show (goodL (bg.map .str) && (goodL ((ksD ks).map kpD) && true)) = true
    rw [g1.1, k1]
    rfl
  · show max (deepL (bg.map .str) + 1) (max (deepL ((ksD ks).map kpD) + 1) 0) + 1 ≤ 5
    rw [g1.2]
    omega
theorem cd_same {bg : List Str} {ks : List (Nat × List Str)} (h1 : ∀ s ∈ bg, IsW s) (h2 : ∀ k ∈ ks, ∀ s ∈ k.2, IsW s) {S : Sto} : pEq false (cdD (sT bg) (ksD ks)) (cdD (sT bg) (ksD ks)) S = some (.bl true, S) := by
  obtain ⟨a, b, _, _⟩ := cd_good h1 h2
  exact eq_same cd_plain a (by omega) rfl
end Lk33

namespace Lk33
open PySem PySem.Spec PyProof.Rows L2 Dn
/-! ### pieces of straight rows -/
def stK (kp : List Nat) : Nat → Nat
  | 0 => 0
  | n + 1 => if n + 1 ∈ kp then n + 1 else stK kp n
theorem stK_mem {kp : List Nat} : ∀ n, stK kp n = 0 ∨ stK kp n ∈ kp
  | 0 => .inl rfl
  | n + 1 => by
    unfold stK
    by_cases h : n + 1 ∈ kp
    · rw [if_pos h]; exact .inr h
    · rw [if_neg h]; exact stK_mem n
theorem stK_le {kp : List Nat} : ∀ n, stK kp n ≤ n
  | 0 => Nat.le_refl _
  | n + 1 => by
    unfold stK
    by_cases h : n + 1 ∈ kp
    · rw [if_pos h]; exact Nat.le_refl _
    · rw [if_neg h]; exact Nat.le_succ_of_le (stK_le n)
theorem stK_gap {kp : List Nat} : ∀ n i, stK kp n < i → i ≤ n → i ∉ kp
  | 0, i, h1, h2 => absurd h1 (by omega)
  | n + 1, i, h1, h2 => by
    unfold stK at h1
    by_cases h : n + 1 ∈ kp
    · rw [if_pos h] at h1
      omega
    · rw [if_neg h] at h1
      by_cases q : i = n + 1
      · rw [q]; exact h
      · exact stK_gap n i h1 (by omega)
theorem stK_eq {kp : List Nat} {s : Nat} (hs : s = 0 ∨ s ∈ kp) : ∀ n, s ≤ n → (∀ i, s < i → i ≤ n → i ∉ kp) → stK kp n = s
  | 0, h, _ => by
    show 0 = s
    omega
  | n + 1, h, hg => by
    unfold stK
    by_cases q : s = n + 1
    · by_cases h : n + 1 ∈ kp
      · rw [if_pos h, q]
      · rcases hs with z | z
        · omega
        · rw [q] at z
          exact absurd z h
    · rw [if_neg (hg (n + 1) (by omega) (Nat.le_refl _))]
      exact stK_eq hs n (by omega) fun i h1 h2 => hg i h1 (by omega)
section
variable {rows : List PRow} {kp : List Nat} {nm : Str} {sh : Bool}
def fstL (rows : List PRow) (nm : Str) (s at_ : Nat) : List Nat := (List.range (at_ - s)).filter fun k => atB rows (tkR nm) (s + k)
def putL (rows : List PRow) (nm : Str) (s at_ : Nat) : List Nat := (List.range (at_ - s)).filter fun k => atB rows (ptR nm) (s + k)
def pairC (sh : Bool) (f p : List Nat) : Bool := !decide (f = []) && (sh || (decide (p = []) || decide (f.headD 0 < p.headD 0)))
def pairB (rows : List PRow) (kp : List Nat) (nm : Str) (sh : Bool) (at_ : Nat) : Bool := atB rows (ptR nm) at_ && pairC sh (fstL rows nm (stK kp at_) at_) (putL rows nm (stK kp at_) at_)
structure Strt (rows : List PRow) : Prop where
  on : ∀ (i : Nat) (r : PRow), rows[i]? = some r → i + 1 < rows.length → r.led i = [i + 1]
  one : ∀ (i : Nat) (r : PRow), rows[i]? = some r → ∀ t ∈ r.led i, t = i + 1
theorem way_at {pl w : List Nat} (hS : Strt rows) (W : WayOk rows pl kp w) {s : Nat} (h0 : w[0]? = some s) : ∀ (i x : Nat), w[i]? = some x → x = s + i ∧ (0 < i → x ∉ kp)
  | 0, x, h => by
    rw [h0] at h
    cases h
    exact ⟨rfl, fun h => absurd h (Nat.lt_irrefl _)⟩
  | i + 1, x, h => by
    have hl := (List.getElem?_eq_some_iff.mp h).1
    have hy : w[i]? = some (w[i]'(by omega)) := List.getElem?_eq_getElem _
    generalize w[i]'(by omega) = y at hy
    obtain ⟨e1, _⟩ := way_at hS W h0 i y hy
    obtain ⟨n1, r, hr, ht⟩ := W.next i y x hy h
    have := hS.one y r hr x ht
    exact ⟨by omega, fun _ => n1⟩
theorem tk_not_pt {r : PRow} (h : tkR nm r = true) : ptR nm r = false := by
  unfold tkR at h
  unfold ptR
  cases hq : (decide (tch nm r = "store") || decide (tch nm r = "lay")) with
  | false => rfl
  | true =>
    exfalso
    simp only [Bool.or_eq_true, decide_eq_true_eq] at h hq
    rcases h with a | a <;> rcases hq with b | b <;> (rw [a] at b; revert b; decide +kernel)
theorem atB_not {a : Nat} (h : atB rows (tkR nm) a = true) : atB rows (ptR nm) a = false := by
  unfold atB at h ⊢
  cases hr : rows[a]? with
  | none => rfl
  | some r =>
    rw [hr] at h
    exact tk_not_pt h
/-- a way that spoils is a pair -/
theorem pair_of_way {pl w0 : List Nat} {e : Nat} (hS : Strt rows) (W : WayOk rows pl kp (w0 ++ [e])) (hpl : ∀ n ∈ pl, n = 0 ∨ n ∈ kp) (he : atB rows (ptR nm) e = true) {j x : Nat} (j1 : j < w0.length) (j2 : (w0 ++ [e])[j]? = some x) (j3 : atB rows (tkR nm) x = true)
    (j4 : ∀ (i y : Nat), i < j → (w0 ++ [e])[i]? = some y → atB rows (tkR nm) y = false ∧ atB rows (stR nm) y = false) (hsh : sh = true ∨ ∀ r ∈ rows, ptR nm r = stR nm r) :
    ∃ s, w0 ++ [e] = List.range' s (w0.length + 1) ∧ e = s + w0.length ∧ stK kp e = s ∧ pairB rows kp nm sh e = true := by
  let w := w0 ++ [e]
  have wl : w.length = w0.length + 1 := by show (w0 ++ [e]).length = _; rw [List.length_append, List.length_singleton]
  obtain ⟨s, h0⟩ : ∃ s, w[0]? = some s := ⟨_, List.getElem?_eq_getElem (by omega)⟩
  have at_ := way_at hS W h0
  have hat : ∀ i, i < w0.length + 1 → w[i]? = some (s + i) := fun i hi => by
    have hy : w[i]? = some (w[i]'(by omega)) := List.getElem?_eq_getElem _
    rw [hy, (at_ i _ hy).1]
  have ew : w = List.range' s (w0.length + 1) := by
    apply List.ext_getElem?
    intro i
    by_cases hi : i < w0.length + 1
    · rw [hat i hi, List.getElem?_range' hi, Nat.one_mul]
    · rw [List.getElem?_eq_none (by omega), List.getElem?_eq_none (by rw [List.length_range']; omega)]
  have ee : e = s + w0.length := by
    have h1 := hat w0.length (by omega)
    have h2 : w[w0.length]? = some e := get_len _ _
    rw [h2] at h1
    injection h1
  have hs : s = 0 ∨ s ∈ kp := hpl s (W.first s h0)
  have gap : ∀ i, s < i → i ≤ e → i ∉ kp := fun i h1 h2 => by
    have := (at_ (i - s) i (by rw [hat (i - s) (by omega)]; congr 1; omega)).2 (by omega)
    exact this
  have est := stK_eq hs e (by omega) gap
  refine ⟨s, ew, ee, est, ?_⟩
  unfold pairB
  rw [he, est, Bool.true_and]
  have n_ : e - s = w0.length := by omega
  have xj : x = s + j := (at_ j x j2).1
  have low : ∀ i, i < j → atB rows (tkR nm) (s + i) = false ∧ atB rows (stR nm) (s + i) = false := fun i hi => j4 i (s + i) hi (hat i (by omega))
  obtain ⟨rest, hf, _⟩ := filter_first (p := fun k => atB rows (tkR nm) (s + k)) (n := e - s) (j := j) (by omega) (by show atB rows (tkR nm) (s + j) = true; rw [← xj]; exact j3) (fun i hi => (low i hi).1)
  have hf : fstL rows nm s e = j :: rest := hf
  unfold pairC
  rw [hf]
  have nn : decide (j :: rest = ([] : List Nat)) = false := decide_eq_false (by simp)
  rw [nn, Bool.not_false, Bool.true_and]
  rcases hsh with h | h
  · rw [h, Bool.true_or]
  · cases hp : putL rows nm s e with
    | nil => rw [decide_eq_true rfl, Bool.true_or, Bool.or_true]
    | cons m ms =>
      have hm : m ∈ putL rows nm s e := by rw [hp]; exact List.mem_cons_self
      have hm2 : atB rows (ptR nm) (s + m) = true := (List.mem_filter.mp hm).2
      have hjm : j < m := by
        rcases Nat.lt_trichotomy m j with q | q | q
        · exfalso
          have h2 := (low m q).2
          unfold atB at hm2 h2
          cases hr : rows[s + m]? with
          | none => rw [hr] at hm2; cases hm2
          | some r =>
            rw [hr] at hm2 h2
            simp only at hm2 h2
            rw [h r (List.mem_of_getElem? hr), h2] at hm2
            cases hm2
        · exfalso
          rw [q, ← xj, atB_not j3] at hm2
          cases hm2
        · exact q
      show (sh || (decide (m :: ms = []) || decide (j < m))) = true
      rw [decide_eq_true hjm, Bool.or_true, Bool.or_true]
/-- where no state that spoils is reached there is no pair -/
theorem reach_run (hS : Strt rows) {s e j : Nat} (he : e < rows.length) (hs : s = 0 ∨ s ∈ kp) (gap : ∀ i, s < i → i ≤ e → i ∉ kp) (hj : atB rows (tkR nm) (s + j) = true) (low : ∀ i, i < j → atB rows (tkR nm) (s + i) = false ∧ atB rows (stR nm) (s + i) = false) :
    ∀ m, s + m ≤ e → Rch (srcP (0 :: kp)) (sucS rows kp nm) (s + m, decide (j < m))
  | 0, _ => by
    have hm : s ∈ 0 :: kp := by
      rcases hs with h | h
      · rw [h]; exact List.mem_cons_self
      · exact List.mem_cons_of_mem _ h
    refine .here (List.mem_map.mpr ⟨s, hm, ?_⟩)
    rw [decide_eq_false (Nat.not_lt_zero j)]
    rfl
  | m + 1, h => by
    refine .on (reach_run hS he hs gap hj low m (by omega)) ?_
    obtain ⟨r, hr⟩ : ∃ r, rows[s + m]? = some r := ⟨_, List.getElem?_eq_getElem (by omega)⟩
    have hl := hS.on (s + m) r hr (by omega)
    have hb : beh (tch nm r) (decide (j < m)) = some (decide (j < m + 1)) := by
      unfold beh
      rcases Nat.lt_trichotomy m j with q | q | q
      · obtain ⟨l1, l2⟩ := low m q
        unfold atB at l1 l2
        rw [hr] at l1 l2
        simp only at l1 l2
        have n1 : ¬ tch nm r = "store" := of_decide_eq_false l2
        unfold tkR at l1
        rw [if_neg (fun z => n1 z.1), show decide (j < m) = false from decide_eq_false (by omega), show decide (j < m + 1) = false from decide_eq_false (by omega), l1] <;> rfl
      · subst q
        unfold atB at hj
        rw [hr] at hj
        have n1 : ¬ tch nm r = "store" := fun z => by
          unfold tkR at hj
          simp only at hj
          rw [z] at hj
          revert hj
          decide +kernel
        unfold tkR at hj
        simp only at hj
        rw [if_neg (fun z => n1 z.1), show decide (m < m + 1) = true from decide_eq_true (by omega), hj, Bool.or_true]
      · rw [show decide (j < m) = true from decide_eq_true q, show decide (j < m + 1) = true from decide_eq_true (by omega), if_neg (fun z => by cases z.2)]
        rfl
    unfold sucS
    rw [hr]
    simp only [hb]
    refine List.mem_map.mpr ⟨s + (m + 1), List.mem_filter.mpr ⟨?_, ?_⟩, rfl⟩
    · rw [hl]
      exact List.mem_singleton.mpr (by omega)
    · rw [decide_eq_false (gap _ (by omega) h)] <;> rfl
theorem pair_none (hS : Strt rows) (hn : ∀ k, Rch (srcP (0 :: kp)) (sucS rows kp nm) k → tstS rows nm k = false) (hsh : sh = true → ∀ r ∈ rows, stR nm r = false) {e : Nat} (he : e < rows.length) : pairB rows kp nm sh e = false := by
  cases hp : pairB rows kp nm sh e with
  | false => rfl
  | true =>
    exfalso
    unfold pairB at hp
    obtain ⟨p1, p2⟩ := Bool.and_eq_true_iff.mp hp
    let s := stK kp e
    unfold pairC at p2
    obtain ⟨p3, p4⟩ := Bool.and_eq_true_iff.mp p2
    have sle : s ≤ e := stK_le e
    cases hf : fstL rows nm s e with
    | nil =>
      rw [show fstL rows nm (stK kp e) e = [] from hf] at p3
      cases p3
    | cons j rest =>
      rw [show fstL rows nm (stK kp e) e = j :: rest from hf] at p4
      have hjm : j ∈ fstL rows nm s e := by rw [hf]; exact List.mem_cons_self
      have hj : atB rows (tkR nm) (s + j) = true := (List.mem_filter.mp hjm).2
      have hjl : j < e - s := List.mem_range.mp (List.mem_filter.mp hjm).1
      have least : ∀ {q : Nat → Bool} {m : Nat} {l : List Nat}, (List.range (e - s)).filter q = m :: l → ∀ i ∈ (List.range (e - s)).filter q, m ≤ i := fun {q m l} hq i hi => by
        have pw : ((List.range (e - s)).filter q).Pairwise (· < ·) := List.Pairwise.filter _ List.pairwise_lt_range
        rw [hq] at pw hi
        rcases List.mem_cons.mp hi with z | z
        · omega
        · exact Nat.le_of_lt ((List.pairwise_cons.mp pw).1 i z)
      have low : ∀ i, i < j → atB rows (tkR nm) (s + i) = false ∧ atB rows (stR nm) (s + i) = false := fun i hi => by
        refine ⟨?_, ?_⟩
        · cases hq : atB rows (tkR nm) (s + i) with
          | false => rfl
          | true =>
            have := least hf i (List.mem_filter.mpr ⟨List.mem_range.mpr (by omega), hq⟩)
            omega
        · cases hq : atB rows (stR nm) (s + i) with
          | false => rfl
          | true =>
            exfalso
            obtain ⟨r, hr⟩ : ∃ r, rows[s + i]? = some r := ⟨_, List.getElem?_eq_getElem (by omega)⟩
            have hq' : stR nm r = true := by
              unfold atB at hq
              rw [hr] at hq
              exact hq
            have hpt : ptR nm r = true := by
              unfold stR at hq'
              unfold ptR
              rw [hq'] <;> rfl
            have him : i ∈ putL rows nm s e := List.mem_filter.mpr ⟨List.mem_range.mpr (by omega), by
              unfold atB
              rw [hr]
              exact hpt⟩
            cases sh with
            | true =>
              rw [hsh rfl r (List.mem_of_getElem? hr)] at hq'
              cases hq'
            | false =>
              cases hm : putL rows nm s e with
              | nil => rw [hm] at him; cases him
              | cons m ms =>
                rw [show putL rows nm (stK kp e) e = m :: ms from hm] at p4
                have hjm2 : j < m := by
                  have : (decide (m :: ms = []) || decide (j < m)) = true := p4
                  simpa using this
                have := least hm i him
                omega
      have R := reach_run hS he (stK_mem e) (stK_gap e) hj low (e - s) (by omega)
      have := hn _ R
      rw [decide_eq_true hjl, show s + (e - s) = e by omega] at this
      unfold tstS at this
      simp only [Bool.true_and] at this
      unfold atB at p1
      cases hr : rows[e]? with
      | none => rw [hr] at p1; cases p1
      | some r =>
        rw [hr] at p1 this
        simp only at p1 this
        unfold ptR at p1
        rw [p1] at this
        cases this
end
end Lk33

namespace Lk33
open PySem PySem.Spec PyProof.Rows L2 Dn
/-! ### the law's program -/
theorem shelf_row {bl : List Str} {cells shelves : List Thg} {rows : List PRow} (G : Prg bl cells shelves rows) {c : Thg} (hcc : c ∈ shelves) : ∀ r ∈ rows, stR c.1 r = false := fun r hr => by
  have W := G.w
  have ok := (G.rw r hr).ok
  cases r with
  | store s a =>
    have hk : hasK ((cells.map (·.1)).map fun s => (Sum.inr s : Key)) (.inr s) = true := ok.1
    have ne : ¬ s = c.1 := fun z => by
      unfold hasK at hk
      obtain ⟨q, hq1, hq2⟩ := List.any_eq_true.mp hk
      have hq2 := of_decide_eq_true hq2
      subst hq2
      obtain ⟨s', hs', e'⟩ := List.mem_map.mp hq1
      cases e'
      obtain ⟨_, _, dd⟩ := List.nodup_append.mp W.nd
      exact dd s hs' c.1 (List.mem_map.mpr ⟨c, hcc, rfl⟩) z
    unfold stR tch
    simp [ne]
  | lay s a b =>
    unfold stR tch
    by_cases z : s = c.1 <;> simp [z]
  | load y s =>
    unfold stR tch
    by_cases z : s = c.1 <;> simp [z]
  | take y s a =>
    unfold stR tch
    by_cases z : s = c.1 <;> simp [z]
  | _ => rfl
theorem pick8 {S : Sto} {i : Int} (h : 0 ≤ i ∧ i < 8) : ∃ d : Nat, d < 6 ∧ pIx (.lst .own [.int 0, .int 0, .int 1, .int 1, .int 2, .int 3, .int 4, .int 5]) (.int i) S = some (.int (d : Nat), S) := by
  rcases (show i = 0 ∨ i = 1 ∨ i = 2 ∨ i = 3 ∨ i = 4 ∨ i = 5 ∨ i = 6 ∨ i = 7 by omega) with h | h | h | h | h | h | h | h <;> subst h
  · exact ⟨0, by decide, rfl⟩
  · exact ⟨0, by decide, rfl⟩
  · exact ⟨1, by decide, rfl⟩
  · exact ⟨1, by decide, rfl⟩
  · exact ⟨2, by decide, rfl⟩
  · exact ⟨3, by decide, rfl⟩
  · exact ⟨4, by decide, rfl⟩
  · exact ⟨5, by decide, rfl⟩
theorem four {l : List Str} (h : l.length = 4) : ∃ a b c d, l = [a, b, c, d] := by
  match l, h with
  | [a, b, c, d], _ => exact ⟨a, b, c, d, rfl⟩
abbrev rpB : DS := (dSeq (dSet 8 (dBin pDiv (dBin pMod (dBin pMul (dVar 7) (dC (.int 48271))) (dC (.int 2147483647))) (dC (.int 3))))
  (dSeq (dSet 9 (dBin pIx (dVar 5) (dBin pMod (dVar 8) (dPrim pLen (aCons (dVar 5) aNil)))))
  (dSeq (dSet 10 (dBin pIx (dVar 1) (dBin pMod (dBin pDiv (dVar 8) (dC (.int 11))) (dC (.int 2)))))
  (dSeq (dSet 11 (dPrim pLst (aCons (dPrim pTup (aCons (dC (.str "load")) (aCons (dVar 9) (aCons (dVar 10) aNil)))) (aCons (dPrim pTup (aCons (dC (.str "store")) (aCons (dVar 10) (aCons (dVar 9) aNil)))) (aCons (dPrim pTup (aCons (dC (.str "take")) (aCons (dVar 9) (aCons (dBin pIx (dVar 1) (dBin pAdd (dC (.int 2)) (dBin pMod (dBin pDiv (dVar 8) (dC (.int 11))) (dC (.int 2))))) (aCons (dBin pMod (dBin pDiv (dVar 8) (dC (.int 22))) (dC (.int 9))) aNil))))) aNil)))))
  (dSeq (dSet 11 (dBin pAdd (dVar 11) (dPrim pLst (aCons (dPrim pTup (aCons (dC (.str "lay")) (aCons (dBin pIx (dVar 1) (dBin pAdd (dC (.int 2)) (dBin pMod (dBin pDiv (dVar 8) (dC (.int 11))) (dC (.int 2))))) (aCons (dVar 9) (aCons (dC (.int 5)) aNil))))) (aCons (dPrim pTup (aCons (dC (.str "copy")) (aCons (dVar 9) (aCons (dVar 8) aNil)))) (aCons (dPrim pTup (aCons (dC (.str "say")) (aCons (dVar 9) aNil))) aNil))))))
  (dExpr (dMt pAppend (dVar 6) (aCons (dBin pIx (dVar 11) (dBin pIx (dPrim pLst (aCons (dC (.int 0)) (aCons (dC (.int 0)) (aCons (dC (.int 1)) (aCons (dC (.int 1)) (aCons (dC (.int 2)) (aCons (dC (.int 3)) (aCons (dC (.int 4)) (aCons (dC (.int 5)) aNil))))))))) (dBin pMod (dVar 7) (dC (.int 8))))) aNil))))))))
theorem program_ok (ns : List Int) (hl : ns.length ≤ 63) : ∃ (bl : List Str) (c1 c2 s1 s2 : Thg) (rows : List PRow), Prg bl [c1, c2] [s1, s2] rows ∧ Strt rows ∧
    pureOf F_law_program [.lst .ext (ns.map DV.int)] = some (.tup [prD [c1, c2] [s1, s2] rows, .lst .own (bl.map .str)]) := by
  let Sc : DV := .lst .ext (ns.map DV.int)
  have pS : ∀ z : Int, plainL [Sc, .int z] = true := fun z => by
    have pSc : plain Sc = true := by simp [Sc]
    rw [plainL_cons, pSc] <;> rfl
  have cellE : ∀ (k : Nat) {ρ : List (Option DV)} {S : Sto} {e : DE}, dVar 0 ρ S = some (Sc, S) → e ρ S = some (.int (k : Nat), S) → dPrim (cP (pureOf F_law_cell_at) []) (aCons (dVar 0) (aCons e aNil)) ρ S = some (.int (ns.getD k 0), S) :=
    fun k {ρ S e} h he => callPP (args2 h he) (pS _) at_cell
  let z1 := ns.getD 1 0
  let bits := ns.getD 3 0
  obtain ⟨ci, hci, eci⟩ : ∃ c : Nat, (c = 0 ∨ c = 1) ∧ (if (decide (0 < z1 % 3)) = true then (1 : Int) else 0) = (c : Nat) := by
    by_cases h : 0 < z1 % 3
    · exact ⟨1, .inr rfl, by rw [decide_eq_true h] <;> rfl⟩
    · exact ⟨0, .inl rfl, by rw [decide_eq_false h] <;> rfl⟩
  obtain ⟨th0, tl, tn, tw, eth⟩ := mnames_eq (ns.getD ci 0) 4 (by omega)
  obtain ⟨t0, t1, t2, t3, rfl⟩ := four tl
  let TH : DV := .lst .own ([t0, t1, t2, t3].map .str)
  let N (x1 x2 x3 x4 x5 x6 x7 x8 x9 x10 x11 : Option DV) : List (Option DV) := [some Sc, x1, x2, x3, x4, x5, x6, x7, x8, x9, x10, x11]
  let j1 : Option DV := some TH
  have e1 : dPrim (cP (pureOf F_law_names) []) (aCons (dPrim (cP (pureOf F_law_cell_at) []) (aCons (dVar 0) (aCons (dPrim pInt (aCons (dBin pGt (dBin pMod (dPrim (cP (pureOf F_law_cell_at) []) (aCons (dVar 0) (aCons (dC (.int 1)) aNil))) (dC (.int 3))) (dC (.int 0))) aNil)) aNil))) (aCons (dC (.int 4)) aNil)) (N none none none none none none none none none none none) ([] : Sto) = some (TH, []) := by
    refine callPP (args2 (x := .int (ns.getD ci 0)) (y := .int (4 : Nat)) (cellE ci rfl ?_) rfl) rfl eth
    refine prim_of (args1 (x := .bl (decide (0 < z1 % 3))) (bin_of (bin_of (cellE 1 rfl rfl) rfl (v_modI (by decide))) (y := .int 0) rfl Dn.v_gt)) ?_
    show some (DV.int (if (decide (0 < z1 % 3)) = true then 1 else 0), ([] : Sto)) = _
    rw [eci]
  let j2 : Option DV := some (.int bits)
  let c1 : Thg := (t0, 7, decide (bits % 3 = 0))
  let c2 : Thg := (t1, 0, decide (bits % 3 = 1))
  let s1 : Thg := (t2, 1 + bits / 3 % 8, decide (bits / 24 % 3 = 0))
  let s2 : Thg := (t3, 2, decide (bits / 24 % 3 = 1))
  let CD : DV := .tup [tD c1, tD c2]
  let FD : DV := .tup [tD s1, tD s2]
  have v2 : ∀ {x3 x4 x5 x6 x7 x8 x9 x10 x11 : Option DV} {S : Sto}, dVar 2 (N j1 j2 x3 x4 x5 x6 x7 x8 x9 x10 x11) S = some (.int bits, S) := fun {_ _ _ _ _ _ _ _ _ _} => rfl
  have m3 : ∀ {x3 x4 x5 x6 x7 x8 x9 x10 x11 : Option DV} {S : Sto} (k : Int), dBin (pEq false) (dBin pMod (dVar 2) (dC (.int 3))) (dC (.int k)) (N j1 j2 x3 x4 x5 x6 x7 x8 x9 x10 x11) S = some (.bl (decide (bits % 3 = k)), S) := fun k => bin_of (modI_of v2 rfl (by decide)) rfl v_eqI
  have m24 : ∀ {x3 x4 x5 x6 x7 x8 x9 x10 x11 : Option DV} {S : Sto} (k : Int), dBin (pEq false) (dBin pMod (dBin pDiv (dVar 2) (dC (.int 24))) (dC (.int 3))) (dC (.int k)) (N j1 j2 x3 x4 x5 x6 x7 x8 x9 x10 x11) S = some (.bl (decide (bits / 24 % 3 = k)), S) := fun k => bin_of (modI_of (bin_of v2 (y := .int 24) rfl (v_divI (by decide) (by decide))) rfl (by decide)) rfl v_eqI
  have e3 : dPrim pTup (aCons (dPrim pTup (aCons (dBin pIx (dVar 1) (dC (.int 0))) (aCons (dC (.int 7)) (aCons (dBin (pEq false) (dBin pMod (dVar 2) (dC (.int 3))) (dC (.int 0))) aNil)))) (aCons (dPrim pTup (aCons (dBin pIx (dVar 1) (dC (.int 1))) (aCons (dC (.int 0)) (aCons (dBin (pEq false) (dBin pMod (dVar 2) (dC (.int 3))) (dC (.int 1))) aNil)))) aNil)) (N j1 j2 none none none none none none none none none) ([] : Sto) = some (CD, []) :=
    prim_of (args2 (prim_of (args3 (x := .str t0) rfl rfl (m3 0)) rfl) (prim_of (args3 (x := .str t1) rfl rfl (m3 1)) rfl)) rfl
  let j3 : Option DV := some CD
  have e4 : dPrim pTup (aCons (dPrim pTup (aCons (dBin pIx (dVar 1) (dC (.int 2))) (aCons (dBin pAdd (dC (.int 1)) (dBin pMod (dBin pDiv (dVar 2) (dC (.int 3))) (dC (.int 8)))) (aCons (dBin (pEq false) (dBin pMod (dBin pDiv (dVar 2) (dC (.int 24))) (dC (.int 3))) (dC (.int 0))) aNil)))) (aCons (dPrim pTup (aCons (dBin pIx (dVar 1) (dC (.int 3))) (aCons (dC (.int 2)) (aCons (dBin (pEq false) (dBin pMod (dBin pDiv (dVar 2) (dC (.int 24))) (dC (.int 3))) (dC (.int 1))) aNil)))) aNil)) (N j1 j2 j3 none none none none none none none none) ([] : Sto) = some (FD, []) :=
    prim_of (args2 (prim_of (args3 (x := .str t2) rfl (addI_of (a := 1) rfl (modI_of (bin_of v2 (y := .int 3) rfl (v_divI (by decide) (by decide))) rfl (by decide))) (m24 0)) rfl) (prim_of (args3 (x := .str t3) rfl rfl (m24 1)) rfl)) rfl
  let j4 : Option DV := some FD
  have mb := md (a := ns.getD 2 0) (b := 11) (by decide)
  obtain ⟨nb, hnb⟩ : ∃ nb : Nat, (nb : Int) = 2 + ns.getD 2 0 % 11 := ⟨(2 + ns.getD 2 0 % 11).toNat, by omega⟩
  obtain ⟨bl, bll, bn, bw, ebl⟩ := mnames_eq (ns.getD 0 0) nb (by omega)
  let B : DV := .lst .own (bl.map .str)
  have e5 : dPrim (cP (pureOf F_law_names) []) (aCons (dPrim (cP (pureOf F_law_cell_at) []) (aCons (dVar 0) (aCons (dC (.int 0)) aNil))) (aCons (dBin pAdd (dC (.int 2)) (dBin pMod (dPrim (cP (pureOf F_law_cell_at) []) (aCons (dVar 0) (aCons (dC (.int 2)) aNil))) (dC (.int 11)))) aNil)) (N j1 j2 j3 j4 none none none none none none none) ([] : Sto) = some (B, []) :=
    callPP (args2 (cellE 0 rfl rfl) (y := .int (nb : Nat)) (by rw [hnb]; exact addI_of (a := 2) rfl (modI_of (cellE 2 rfl rfl) rfl (by decide)))) rfl ebl
  let j5 : Option DV := some B
  let j6 : Option DV := some (.loc 0)
  let st (l : List DV) : Sto := [.lst l]
  obtain ⟨told, etold, tz, tz2⟩ := cut_ints (k := .ext) (ns := ns) (a := 6) (b := 63) (S := st []) (by omega)
  let many := told.length + 1
  let cn : List Str := [t0, t1]
  let sn : List Str := [t2, t3]
  let R (x7 x8 x9 x10 x11 : Option DV) := N j1 j2 j3 j4 j5 j6 x7 x8 x9 x10 x11
  obtain ⟨rf, hrf⟩ := choose_all (P := fun (z : Int) (r : PRow) => RowW bl cn sn many r ∧ (∀ i, r.led i = [i + 1]) ∧ ∀ (b : List DV) (x8 x9 x10 x11 : Option DV), b.length < 1000 → ∃ y8 y9 y10 y11, rpB (R (some (.int z)) x8 x9 x10 x11) (st b) = some (.nx (R (some (.int z)) y8 y9 y10 y11) (st (b ++ [r.d])))) fun z => by
    let v : Int := z * 48271 % 2147483647 / 3
    have mv := md (a := z * 48271) (b := 2147483647) (by decide)
    have hv : 0 ≤ v ∧ v < 2147483647 := ⟨by show 0 ≤ z * 48271 % 2147483647 / 3; omega, by show z * 48271 % 2147483647 / 3 < _; omega⟩
    obtain ⟨x, hx, ex⟩ : ∃ s, s ∈ bl ∧ ∀ {S : Sto}, pIx B (.int (v % (bl.length : Int))) S = some (.str s, S) := ix_bl (md (by omega))
    have m2 := md (a := v / 11) (b := 2) (by decide)
    obtain ⟨nm, f, hnm, hf, enm, ef⟩ : ∃ nm f, nm ∈ cn ∧ f ∈ sn ∧ (∀ {S : Sto}, pIx TH (.int (v / 11 % 2)) S = some (.str nm, S)) ∧ (∀ {S : Sto}, pIx TH (.int (2 + v / 11 % 2)) S = some (.str f, S)) := by
      rcases (show v / 11 % 2 = 0 ∨ v / 11 % 2 = 1 by omega) with h | h <;> rw [h]
      · exact ⟨t0, t2, by simp [cn], by simp [sn], fun {S} => rfl, fun {S} => rfl⟩
      · exact ⟨t1, t3, by simp [cn], by simp [sn], fun {S} => rfl, fun {S} => rfl⟩
    have m9 := md (a := v / 22) (b := 9) (by decide)
    obtain ⟨d, hd, ed⟩ := pick8 (S := []) (i := z % 8) (md (by decide))
    have ed' : ∀ {S : Sto}, pIx (.lst .own [.int 0, .int 0, .int 1, .int 1, .int 2, .int 3, .int 4, .int 5]) (.int (z % 8)) S = some (.int (d : Nat), S) := fun {S} => by
      have m8 := md (a := z) (b := 8) (by decide)
      rcases (show z % 8 = 0 ∨ z % 8 = 1 ∨ z % 8 = 2 ∨ z % 8 = 3 ∨ z % 8 = 4 ∨ z % 8 = 5 ∨ z % 8 = 6 ∨ z % 8 = 7 by omega) with h | h | h | h | h | h | h | h <;> rw [h] at ed ⊢ <;> (injection ed with e; injection e with e _; show some (_, S) = _; rw [← e] <;> rfl)
    let q : Int := v / 22 % 9
    let L3 : List PRow := [.load x nm, .store nm (.x x), .take x f (.n q)]
    let L6 : List PRow := L3 ++ [.lay f (.x x) (.n 5), .copy x (.n v), .say (.x x)]
    have one1 : ∀ {a : Atm}, atmIn bl a → ∀ b ∈ [a], atmIn bl b := fun {a} h b hb => by
      rw [List.mem_singleton.mp hb]
      exact h
    have ax : atmIn bl (.x x) := ⟨trivial, fun s h => by cases h; exact hx⟩
    have an : ∀ n : Int, 0 ≤ n → n < 2147483647 → atmIn bl (.n n) := fun n h1 h2 => ⟨⟨h1, by omega⟩, fun s h => by cases h⟩
    have gvx : ∀ b, some x = some b → b ∈ bl := fun b h => by
      cases h
      exact hx
    have nob : ∀ b : Str, (none : Option Str) = some b → b ∈ bl := fun b h => by cases h
    have noa : ∀ a ∈ ([] : List Atm), atmIn bl a := fun a h => by cases h
    have w0 : RowW bl cn sn many (.load x nm) := ⟨hasK_in hnm, trivial, gvx, noa⟩
    have w1 : RowW bl cn sn many (.store nm (.x x)) := ⟨⟨hasK_in hnm, ax.1⟩, trivial, nob, one1 ax⟩
    have w2 : RowW bl cn sn many (.take x f (.n q)) := ⟨⟨hasK_in hf, (an q m9.1 (by omega)).1⟩, trivial, gvx, one1 (an q m9.1 (by omega))⟩
    have w3 : RowW bl cn sn many (.lay f (.x x) (.n 5)) := ⟨⟨hasK_in hf, ax.1, (an 5 (by decide) (by decide)).1⟩, trivial, nob, fun b hb => by
      rcases List.mem_cons.mp hb with hb | hb
      · rw [hb]; exact ax
      · rw [List.mem_singleton.mp hb]; exact an 5 (by decide) (by decide)⟩
    have w4 : RowW bl cn sn many (.copy x (.n v)) := ⟨(an v hv.1 hv.2).1, trivial, gvx, one1 (an v hv.1 hv.2)⟩
    have w5 : RowW bl cn sn many (.say (.x x)) := ⟨ax.1, trivial, nob, one1 ax⟩
    have hd6 : d < L6.length := hd
    have all6 : ∀ r ∈ L6, RowW bl cn sn many r ∧ ∀ i, r.led i = [i + 1] := fun r hr => by
      simp only [L6, L3, List.cons_append, List.nil_append, List.mem_cons, List.not_mem_nil, or_false] at hr
      rcases hr with rfl | rfl | rfl | rfl | rfl | rfl
      · exact ⟨w0, fun _ => rfl⟩
      · exact ⟨w1, fun _ => rfl⟩
      · exact ⟨w2, fun _ => rfl⟩
      · exact ⟨w3, fun _ => rfl⟩
      · exact ⟨w4, fun _ => rfl⟩
      · exact ⟨w5, fun _ => rfl⟩
    refine ⟨L6[d]'hd6, (all6 _ (List.getElem_mem hd6)).1, (all6 _ (List.getElem_mem hd6)).2, fun b x8 x9 x10 x11 hb => ?_⟩
    let k7 : Option DV := some (.int z)
    let k8 : Option DV := some (.int v)
    let k9 : Option DV := some (.str x)
    let k10 : Option DV := some (.str nm)
    let LD (l : List PRow) : DV := .lst .own (l.map PRow.d)
    have lB : ∀ {ρ : List (Option DV)} {S : Sto}, dVar 5 ρ S = some (B, S) → dPrim pLen (aCons (dVar 5) aNil) ρ S = some (.int (bl.length : Nat), S) := fun {ρ S} h => by
      have := lenL_of h
      rwa [List.length_map] at this
    have a8 : dBin pDiv (dBin pMod (dBin pMul (dVar 7) (dC (.int 48271))) (dC (.int 2147483647))) (dC (.int 3)) (R k7 x8 x9 x10 x11) (st b) = some (.int v, st b) :=
      bin_of (modI_of (bin_of (x := .int z) (y := .int 48271) rfl rfl (v_mulI (by decide))) rfl (by decide)) (y := .int 3) rfl (v_divI (by decide) (by decide))
    have a9 : dBin pIx (dVar 5) (dBin pMod (dVar 8) (dPrim pLen (aCons (dVar 5) aNil))) (R k7 k8 x9 x10 x11) (st b) = some (.str x, st b) :=
      bin_of (x := B) rfl (modI_of (a := v) rfl (lB rfl) (by omega)) ex
    have v8 : ∀ {x9 x10 x11 : Option DV} {S : Sto}, dVar 8 (R k7 k8 x9 x10 x11) S = some (.int v, S) := fun {_ _ _ _} => rfl
    have d11 : ∀ {x9 x10 x11 : Option DV} {S : Sto}, dBin pMod (dBin pDiv (dVar 8) (dC (.int 11))) (dC (.int 2)) (R k7 k8 x9 x10 x11) S = some (.int (v / 11 % 2), S) := fun {_ _ _ _} => modI_of (bin_of v8 (y := .int 11) rfl (v_divI (by decide) (by decide))) rfl (by decide)
    have a10 : dBin pIx (dVar 1) (dBin pMod (dBin pDiv (dVar 8) (dC (.int 11))) (dC (.int 2))) (R k7 k8 k9 x10 x11) (st b) = some (.str nm, st b) := bin_of (x := TH) rfl d11 enm
    have fE : ∀ {x11 : Option DV}, dBin pIx (dVar 1) (dBin pAdd (dC (.int 2)) (dBin pMod (dBin pDiv (dVar 8) (dC (.int 11))) (dC (.int 2)))) (R k7 k8 k9 k10 x11) (st b) = some (.str f, st b) := fun {_} => bin_of (x := TH) rfl (addI_of (a := 2) rfl d11) ef
    have v9 : ∀ {x11 : Option DV}, dVar 9 (R k7 k8 k9 k10 x11) (st b) = some (.str x, st b) := fun {_} => rfl
    have v10 : ∀ {x11 : Option DV}, dVar 10 (R k7 k8 k9 k10 x11) (st b) = some (.str nm, st b) := fun {_} => rfl
    have a11 : dPrim pLst (aCons (dPrim pTup (aCons (dC (.str "load")) (aCons (dVar 9) (aCons (dVar 10) aNil)))) (aCons (dPrim pTup (aCons (dC (.str "store")) (aCons (dVar 10) (aCons (dVar 9) aNil)))) (aCons (dPrim pTup (aCons (dC (.str "take")) (aCons (dVar 9) (aCons (dBin pIx (dVar 1) (dBin pAdd (dC (.int 2)) (dBin pMod (dBin pDiv (dVar 8) (dC (.int 11))) (dC (.int 2))))) (aCons (dBin pMod (dBin pDiv (dVar 8) (dC (.int 22))) (dC (.int 9))) aNil))))) aNil))) (R k7 k8 k9 k10 x11) (st b) = some (LD L3, st b) :=
      prim_of (args3 (prim_of (args3 rfl v9 v10) rfl) (prim_of (args3 rfl v10 v9) rfl) (prim_of (argsC rfl (args3 v9 fE (modI_of (bin_of v8 (y := .int 22) rfl (v_divI (by decide) (by decide))) rfl (by decide)))) rfl)) rfl
    have a12 : dBin pAdd (dVar 11) (dPrim pLst (aCons (dPrim pTup (aCons (dC (.str "lay")) (aCons (dBin pIx (dVar 1) (dBin pAdd (dC (.int 2)) (dBin pMod (dBin pDiv (dVar 8) (dC (.int 11))) (dC (.int 2))))) (aCons (dVar 9) (aCons (dC (.int 5)) aNil))))) (aCons (dPrim pTup (aCons (dC (.str "copy")) (aCons (dVar 9) (aCons (dVar 8) aNil)))) (aCons (dPrim pTup (aCons (dC (.str "say")) (aCons (dVar 9) aNil))) aNil)))) (R k7 k8 k9 k10 (some (LD L3))) (st b) = some (LD L6, st b) :=
      bin_of (x := LD L3) (y := LD [.lay f (.x x) (.n 5), .copy x (.n v), .say (.x x)]) rfl (prim_of (args3 (prim_of (argsC rfl (args3 fE v9 rfl)) rfl) (prim_of (args3 rfl v9 v8) rfl) (prim_of (args2 rfl v9) rfl)) rfl) rfl
    have a13 : dBin pIx (dVar 11) (dBin pIx (dPrim pLst (aCons (dC (.int 0)) (aCons (dC (.int 0)) (aCons (dC (.int 1)) (aCons (dC (.int 1)) (aCons (dC (.int 2)) (aCons (dC (.int 3)) (aCons (dC (.int 4)) (aCons (dC (.int 5)) aNil))))))))) (dBin pMod (dVar 7) (dC (.int 8)))) (R k7 k8 k9 k10 (some (LD L6))) (st b) = some ((L6[d]'hd6).d, st b) := by
      refine bin_of (x := LD L6) rfl (bin_of (x := .lst .own [.int 0, .int 0, .int 1, .int 1, .int 2, .int 3, .int 4, .int 5]) rfl (modI_of (a := z) rfl rfl (by decide)) ed') (ix_seq (atD_nat ?_))
      rw [List.getElem?_map, List.getElem?_eq_getElem hd6]
      rfl
    exact ⟨k8, k9, k10, some (LD L6), (seq_nx (set_of a8)).trans ((seq_nx (set_of a9)).trans ((seq_nx (set_of a10)).trans ((seq_nx (set_of a11)).trans ((seq_nx (set_of a12)).trans (append_of (n := 0) rfl rfl a13 (by omega))))))⟩
  obtain ⟨x7, x8, x9, x10, x11, sR⟩ : ∃ x7 x8 x9 x10 x11, dFor (iSeq (dSl pSl (dVar 0) (oSome (dC (.int 6))) (oSome (dC (.int 63))))) (gSet 7) rpB (R none none none none none) (st []) = some (.nx (R x7 x8 x9 x10 x11) (st ((told.map rf).map PRow.d))) := by
    obtain ⟨ρ', h1, x7, x8, x9, x10, x11, h2⟩ := for_app (D := DV.int) (E := fun c => (rf c).d) (g := gSet 7) (body := rpB)
      (I := fun ρ => ∃ x7 x8 x9 x10 x11, ρ = R x7 x8 x9 x10 x11) (st := st) 1000 told [] (R none none none none none) ⟨none, none, none, none, none, rfl⟩ (by show 0 + told.length ≤ _; omega) fun c hc b ρ hb hI => by
        obtain ⟨x7, x8, x9, x10, x11, rfl⟩ := hI
        obtain ⟨y8, y9, y10, y11, hE⟩ := (hrf c).2.2 b x8 x9 x10 x11 hb
        exact ⟨R (some (.int c)) x8 x9 x10 x11, st b, _, rfl, hE, _, _, _, _, _, rfl⟩
    have it : iSeq (dSl pSl (dVar 0) (oSome (dC (.int 6))) (oSome (dC (.int 63)))) (R none none none none none) (st []) = some (told.map DV.int, st []) := by
      refine iSeqL_of (k := .own) ?_
      rw [v_sl]
      exact etold
    refine ⟨x7, x8, x9, x10, x11, for_of it ?_⟩
    rw [h2] at h1
    refine h1.trans ?_
    show some (Out.nx _ (st ([] ++ told.map fun c => (rf c).d))) = some (Out.nx _ (st ((told.map rf).map PRow.d)))
    rw [List.map_map]
    rfl
  let S1 := st ((told.map rf).map PRow.d)
  let rows := told.map rf ++ [PRow.endr (.n 0)]
  have rlen : rows.length = many := by simp [rows, many]
  have hall : ∀ r ∈ rows, RowW bl cn sn rows.length r := fun r h => by
    rw [rlen]
    rcases List.mem_append.mp h with h | h
    · obtain ⟨c, _, rfl⟩ := List.mem_map.mp h
      exact (hrf c).1
    · rw [List.mem_singleton.mp h]
      exact ⟨⟨by decide, by decide⟩, trivial, fun b h => (by cases h), fun b hb => by
        rw [List.mem_singleton.mp (show b ∈ [Atm.n 0] from hb)]
        exact ⟨⟨by decide, by decide⟩, fun s h => by cases h⟩⟩
  have at_ : ∀ (i : Nat) (r : PRow), rows[i]? = some r → (i + 1 < rows.length ∧ r.led i = [i + 1]) ∨ (i + 1 = rows.length ∧ r.led i = []) := fun i r hr => by
    have hil := (List.getElem?_eq_some_iff.mp hr).1
    have tll : (told.map rf).length = told.length := List.length_map _
    have hr : (told.map rf ++ [PRow.endr (.n 0)])[i]? = some r := hr
    by_cases q : i < told.length
    · refine .inl ⟨by omega, ?_⟩
      rw [List.getElem?_append_left (by omega)] at hr
      obtain ⟨c, _, rfl⟩ := List.mem_map.mp (List.mem_of_getElem? hr)
      exact (hrf c).2.1 i
    · refine .inr ⟨by omega, ?_⟩
      rw [List.getElem?_append_right (by omega), show i - (told.map rf).length = 0 by omega] at hr
      cases hr
      rfl
  have W : Wrl bl [c1, c2] [s1, s2] := by
    have hth : [t0, t1, t2, t3].Nodup := tn
    refine ⟨by omega, by omega, bn, bw, (show 2 ≤ 8 by decide), (show 2 ≤ 4 by decide), hth, fun c hc => ?_, fun c hc => ?_⟩
    · rcases List.mem_cons.mp hc with h | h
      · rw [h]; exact ⟨tw t0 (by simp), (show In40 7 from ⟨by decide, by decide⟩)⟩
      · rw [List.mem_singleton.mp h]; exact ⟨tw t1 (by simp), (show In40 0 from ⟨by decide, by decide⟩)⟩
    · rcases List.mem_cons.mp hc with h | h
      · rw [h]
        have := md (a := bits / 3) (b := 8) (by decide)
        exact ⟨tw t2 (by simp), (by show 1 ≤ 1 + bits / 3 % 8; omega), (by show 1 + bits / 3 % 8 ≤ 8; omega)⟩
      · rw [List.mem_singleton.mp h]; exact ⟨tw t3 (by simp), (show (1 : Int) ≤ 2 by decide), (show (2 : Int) ≤ 8 by decide)⟩
  have G : Prg bl [c1, c2] [s1, s2] rows := ⟨W, by omega, by omega, hall, fun i r hi t ht => by
    rcases at_ i r hi with ⟨h1, h2⟩ | ⟨h1, h2⟩
    · rw [h2] at ht
      rw [List.mem_singleton.mp ht]
      exact h1
    · rw [h2] at ht
      cases ht⟩
  have T : Strt rows := ⟨fun i r hr h => by
    rcases at_ i r hr with ⟨h1, h2⟩ | ⟨h1, h2⟩
    · exact h2
    · omega, fun i r hr t ht => by
    rcases at_ i r hr with ⟨h1, h2⟩ | ⟨h1, h2⟩
    · rw [h2] at ht
      exact List.mem_singleton.mp ht
    · rw [h2] at ht
      cases ht⟩
  refine ⟨bl, c1, c2, s1, s2, rows, G, T, ?_⟩
  have eR : dPrim pTuple (aCons (dBin pAdd (dVar 6) (dPrim pLst (aCons (dPrim pTup (aCons (dC (.str "end")) (aCons (dC (.int 0)) aNil))) aNil))) aNil) (R x7 x8 x9 x10 x11) S1 = some (.tup (rows.map PRow.d), S1) := by
    refine prim_of (args1 (x := .lst .own (rows.map PRow.d)) (bin_of (x := .loc 0) (y := .lst .own [(PRow.endr (.n 0)).d]) rfl rfl ?_)) rfl
    rw [v_addl (xs := (told.map rf).map PRow.d) rfl, if_pos (size_ok (by simp; omega))]
    show some (DV.lst .own ((told.map rf).map PRow.d ++ [(PRow.endr (.n 0)).d]), S1) = some (DV.lst .own ((told.map rf ++ [PRow.endr (.n 0)]).map PRow.d), S1)
    rw [List.map_append (l₁ := told.map rf)]
    rfl
  refine pureOf_of (S' := S1) (run_rt rfl ((seq_nx (set_of (S1 := []) e1)).trans ((seq_nx (s := dSet 2 (dPrim (cP (pureOf F_law_cell_at) []) (aCons (dVar 0) (aCons (dC (.int 3)) aNil)))) (set_of (S1 := []) (cellE 3 rfl rfl))).trans ((seq_nx (set_of (S1 := []) e3)).trans ((seq_nx (set_of (S1 := []) e4)).trans ((seq_nx (set_of (S1 := []) e5)).trans ((seq_nx (s := dSet 6 (dPrim pLstM aNil)) (S' := st []) rfl).trans ((seq_nx sR).trans (ret_of (prim_of (args2 (prim_of (args3 (x := CD) (y := FD) rfl rfl eR) rfl) (y := B) rfl) rfl)))))))))) ?_
  have p1 : plain (prD [c1, c2] [s1, s2] rows) = true := prD_plain
  show plainL [prD [c1, c2] [s1, s2] rows, B] = true
  rw [plainL_cons, p1, plainL_cons, show plain B = true by rw [plain_own]; exact plainL_strs] <;> rfl
/-! ### the law's cutting -/
theorem pick5 {S : Sto} {i : Int} (h : 0 ≤ i ∧ i < 4) : ∃ d : Int, 0 < d ∧ d < 100 ∧ pIx (.lst .own [.int 2, .int 3, .int 5, .int 9]) (.int i) S = some (.int d, S) := by
  rcases (show i = 0 ∨ i = 1 ∨ i = 2 ∨ i = 3 by omega) with h | h | h | h <;> subst h
  · exact ⟨2, by decide, by decide, rfl⟩
  · exact ⟨3, by decide, by decide, rfl⟩
  · exact ⟨5, by decide, by decide, rfl⟩
  · exact ⟨9, by decide, by decide, rfl⟩
theorem cutting_ok (ns : List Int) {bl : List Str} {c : Thg} {cells shelves : List Thg} {rows : List PRow} (bz : bl.length ≤ 12) (hn : rows.length ≤ 1000) (bw : ∀ s ∈ bl, IsW s) (cw : IsW c.1) :
    ∃ (bg : List Str) (ks : List (Nat × List Str)), pureOf F_law_cutting [.lst .ext (ns.map DV.int), PD (c :: cells) shelves rows, .lst .own (bl.map .str)] = some (cdD (sT bg) (ksD ks)) ∧ (∀ s ∈ bg, IsW s) ∧ (∀ k ∈ ks, k.1 < rows.length ∧ ∀ s ∈ k.2, IsW s) ∧ ks.length ≤ rows.length := by
  let Sc : DV := .lst .ext (ns.map DV.int)
  let P := PD (c :: cells) shelves rows
  have pSc : plain Sc = true := by simp [Sc]
  have pS2 : ∀ z : Int, plainL [Sc, .int z] = true := fun z => by rw [plainL_cons, pSc] <;> rfl
  have cellE : ∀ (k : Nat) {ρ : List (Option DV)} {S : Sto} {e : DE}, dVar 0 ρ S = some (Sc, S) → e ρ S = some (.int (k : Nat), S) → dPrim (cP (pureOf F_law_cell_at) []) (aCons (dVar 0) (aCons e aNil)) ρ S = some (.int (ns.getD k 0), S) :=
    fun k {ρ S e} h he => callPP (args2 h he) (pS2 _) mat_cell
  let c5 := ns.getD 5 0
  let N (x2 x3 x4 x5 x6 x7 : Option DV) : List (Option DV) := [some Sc, some P, x2, x3, x4, x5, x6, x7]
  obtain ⟨d, d0, d1, ed⟩ := pick5 (S := []) (i := c5 % 4) (md (by decide))
  let j3 : Option DV := some (.int d)
  have e3 : dBin pIx (dPrim pLst (aCons (dC (.int 2)) (aCons (dC (.int 3)) (aCons (dC (.int 5)) (aCons (dC (.int 9)) aNil))))) (dBin pMod (dPrim (cP (pureOf F_law_cell_at) []) (aCons (dVar 0) (aCons (dC (.int 5)) aNil))) (dC (.int 4))) (N (some (.lst .own (bl.map .str))) none none none none none) ([] : Sto) = some (.int d, []) :=
    bin_of (x := .lst .own [.int 2, .int 3, .int 5, .int 9]) rfl (bin_of (cellE 5 rfl rfl) rfl (v_modI (by decide))) ed
  let xs : List Str := bl ++ [c.1, "zz"]
  let ps := sortS (ddp xs)
  have dl := ddp_le xs
  have xl : xs.length ≤ 14 := by
    show (bl ++ [c.1, "zz"]).length ≤ 14
    rw [List.length_append]
    show bl.length + 2 ≤ 14
    omega
  have pl : ps.length ≤ 14 := by
    show (sortS (ddp xs)).length ≤ 14
    rw [(sortS_perm _).length_eq]
    omega
  let j2 : Option DV := some (.lst .own (ps.map .str))
  have e2 : dSortSet (dBin pAdd (dVar 2) (dPrim pLst (aCons (dBin pIx (dBin pIx (dBin pIx (dVar 1) (dC (.int 0))) (dC (.int 0))) (dC (.int 0))) (aCons (dC (.str "zz")) aNil)))) (N (some (.lst .own (bl.map .str))) j3 none none none none) ([] : Sto) = some (.lst .own (ps.map .str), []) := by
    have a1 : dPrim pLst (aCons (dBin pIx (dBin pIx (dBin pIx (dVar 1) (dC (.int 0))) (dC (.int 0))) (dC (.int 0))) (aCons (dC (.str "zz")) aNil)) (N (some (.lst .own (bl.map .str))) j3 none none none none) ([] : Sto) = some (.lst .own [.str c.1, .str "zz"], []) := prim_of (args2 (bin_of (x := tD c) (y := .int 0) (bin_of (x := .tup ((c :: cells).map tD)) (y := .int (0 : Nat)) (bin_of (x := P) (y := .int 0) rfl rfl rfl) rfl (ix_tup (atD_nat rfl))) rfl rfl) rfl) rfl
    have sum := bin_of (p := pAdd) (f := dVar 2) (ρ := N (some (.lst .own (bl.map .str))) j3 none none none none) (S := []) (x := .lst .own (bl.map .str)) rfl a1 (v_addL (by decide) (by decide))
    rw [if_pos (by rw [List.length_map, size_eq]; show bl.length + 2 ≤ _; omega)] at sum
    unfold dSortSet
    rw [sum]
    have e1 : strsD (bl.map .str ++ [.str c.1, .str "zz"]) = some xs := by
      show _ = some (bl ++ [c.1, "zz"])
      rw [← strsD_of (bl ++ [c.1, "zz"]), List.map_append]
      rfl
    simp only [asL_lst, e1]
    rw [if_pos ⟨by omega, by omega⟩]
  have lenP : ∀ {ρ : List (Option DV)} {S : Sto}, dVar 2 ρ S = some (.lst .own (ps.map .str), S) → dPrim pLen (aCons (dVar 2) aNil) ρ S = some (.int (ps.length : Nat), S) := fun {ρ S} h => by
    have := lenL_of h
    rwa [List.length_map] at this
  -- a slice, sorted
  have sl : ∀ {ρ : List (Option DV)} {S : Sto} {f : DE} (z : Int), dVar 2 ρ S = some (.lst .own (ps.map .str), S) → f ρ S = some (.int z, S) →
      dPrim pTuple (aCons (dPrim pSorted (aCons (dSl pSl (dVar 2) oNone (oSome (dBin pMod f (dBin pAdd (dPrim pLen (aCons (dVar 2) aNil)) (dC (.int 1)))))) aNil)) aNil) ρ S = some (sT (sortS (ps.take (z % ((ps.length : Int) + 1)).toNat)), S) := fun {ρ S f} z h2 hf => by
    have ha : (((z % ((ps.length : Int) + 1)).toNat : Nat) : Int) = z % ((ps.length : Int) + 1) := Int.toNat_of_nonneg (Int.emod_nonneg _ (by omega))
    have e1 : dBin pMod f (dBin pAdd (dPrim pLen (aCons (dVar 2) aNil)) (dC (.int 1))) ρ S = some (.int ((z % ((ps.length : Int) + 1)).toNat : Nat), S) := by
      rw [ha]
      exact bin_of hf (bin_of (lenP h2) (y := .int 1) rfl rfl) (v_modI (by omega))
    have e2 : dSl pSl (dVar 2) oNone (oSome (dBin pMod f (dBin pAdd (dPrim pLen (aCons (dVar 2) aNil)) (dC (.int 1))))) ρ S = some (.lst .own ((ps.take (z % ((ps.length : Int) + 1)).toNat).map .str), S) := by
      rw [v_sl, h2]
      simp only [v_oN, v_oS, e1]
      exact cut_strs
    exact tupL_of (sortedL_of e2 (by rw [List.length_take]; omega))
  let st (l : List DV) : Sto := [.lst l]
  let num (i : Nat) : Int := (c5 / 4 + 7919 * (i : Int)) * 69621 % 2147483629
  let E (i : Nat) : Nat × List Str := (i, sortS (ps.take (num i / 45 % ((ps.length : Int) + 1)).toNat))
  let p (i : Nat) : Bool := decide (num i / 5 % d = 0)
  have lr : dPrim pLen (aCons (dBin pIx (dVar 1) (dC (.int 2))) aNil) (N j2 j3 (some (.loc 0)) none none none) (st []) = some (.int (rows.length : Nat), st []) := by
    have := lenT_of (f := dBin pIx (dVar 1) (dC (.int 2))) (ρ := N j2 j3 (some (.loc 0)) none none none) (S := st []) (S1 := st []) (xs := rows.map PRow.d) rfl
    rwa [List.length_map] at this
  obtain ⟨ρ', h1, x, y, h2⟩ := for_filt (D := fun (i : Nat) => DV.int i) (E := fun i => kpD ((E i).1, sT (E i).2)) (p := p) (g := gSet 5) (body := (dSeq (dSet 7 (dBin pMod (dBin pMul (dBin pAdd (dBin pDiv (dPrim (cP (pureOf F_law_cell_at) []) (aCons (dVar 0) (aCons (dC (.int 5)) aNil))) (dC (.int 4))) (dBin pMul (dC (.int 7919)) (dVar 5))) (dC (.int 69621))) (dC (.int 2147483629))))
      (dIfS (dBin (pEq false) (dBin pMod (dBin pDiv (dVar 7) (dC (.int 5))) (dVar 3)) (dC (.int 0))) (dExpr (dMt pAppend (dVar 4) (aCons (dPrim pTup (aCons (dVar 5) (aCons (dPrim pTuple (aCons (dPrim pSorted (aCons (dSl pSl (dVar 2) oNone (oSome (dBin pMod (dBin pDiv (dVar 7) (dC (.int 45))) (dBin pAdd (dPrim pLen (aCons (dVar 2) aNil)) (dC (.int 1)))))) aNil)) aNil)) aNil))) aNil))) dNext)))
      (I := fun ρ => ∃ x y, ρ = N j2 j3 (some (.loc 0)) x none y) (st := st) 2000 (List.range rows.length) [] (N j2 j3 (some (.loc 0)) none none none) ⟨none, none, rfl⟩ (by rw [List.length_range]; show 0 + _ ≤ _; omega) fun i hi b ρ hb hI => by
    obtain ⟨x, y, rfl⟩ := hI
    have hi := List.mem_range.mp hi
    let ρ5 := N j2 j3 (some (.loc 0)) (some (.int i)) none (some (.int (num i)))
    have e7 : dBin pMod (dBin pMul (dBin pAdd (dBin pDiv (dPrim (cP (pureOf F_law_cell_at) []) (aCons (dVar 0) (aCons (dC (.int 5)) aNil))) (dC (.int 4))) (dBin pMul (dC (.int 7919)) (dVar 5))) (dC (.int 69621))) (dC (.int 2147483629)) (N j2 j3 (some (.loc 0)) (some (.int i)) none y) (st b) = some (.int (num i), st b) :=
      bin_of (bin_of (bin_of (bin_of (cellE 5 rfl rfl) rfl (v_divI (by decide) (by decide))) (bin_of (x := .int 7919) (y := .int (i : Nat)) rfl rfl (v_mulI (by omega))) rfl) rfl (v_mulI (by decide))) rfl (v_modI (by decide))
    have cE : dBin (pEq false) (dBin pMod (dBin pDiv (dVar 7) (dC (.int 5))) (dVar 3)) (dC (.int 0)) ρ5 (st b) = some (.bl (p i), st b) :=
      bin_of (bin_of (bin_of (x := .int (num i)) (y := .int 5) rfl rfl (v_divI (by decide) (by decide))) (y := .int d) rfl (v_modI (by omega))) (y := .int 0) rfl v_eqI
    refine ⟨N j2 j3 (some (.loc 0)) (some (.int i)) none y, st b, ρ5, rfl, (seq_nx (set_of e7)).trans ((ifS_b cE).trans ?_), _, _, rfl⟩
    by_cases q : p i = true
    · rw [if_pos q, if_pos q]
      exact append_of (n := 0) rfl rfl (prim_of (args2 (x := .int (i : Nat)) rfl (sl (num i / 45) rfl (bin_of (x := .int (num i)) (y := .int 45) rfl rfl (v_divI (by decide) (by decide))))) rfl) (by omega)
    · rw [if_neg q, if_neg q]
      rfl
  rw [h2, List.nil_append] at h1
  let ks := ((List.range rows.length).filter p).map E
  have eK : ((List.range rows.length).filter p).map (fun i => kpD ((E i).1, sT (E i).2)) = (ksD ks).map kpD := by
    show _ = ((((List.range rows.length).filter p).map E).map fun k : Nat × List Str => (k.1, DV.tup (k.2.map .str))).map kpD
    rw [List.map_map, List.map_map]
    rfl
  rw [eK] at h1
  have hle := List.length_filter_le p (List.range rows.length)
  rw [List.length_range] at hle
  have psW : ∀ s ∈ ps, IsW s := fun s hs => by
    have h1 := mem_ddp.mp ((sortS_perm (ddp xs)).mem_iff.mp hs)
    rcases List.mem_append.mp h1 with h | h
    · exact bw s h
    · rcases List.mem_cons.mp h with h | h
      · rw [h]; exact cw
      · rw [List.mem_singleton.mp h]
        exact ⟨[122, 122], rfl, by decide, by decide, by decide⟩
  have slW : ∀ n : Nat, ∀ s ∈ sortS (ps.take n), IsW s := fun n s hs => psW s (List.mem_of_mem_take ((sortS_perm _).mem_iff.mp hs))
  refine ⟨sortS (ps.take (c5 / 4 % ((ps.length : Int) + 1)).toNat), ks, ?_, slW _, fun k hk => ?_, by rw [List.length_map]; exact hle⟩
  · have e6 := sl (ρ := N j2 j3 (some (.loc 0)) x none y) (S := st ((ksD ks).map kpD)) (f := dBin pDiv (dPrim (cP (pureOf F_law_cell_at) []) (aCons (dVar 0) (aCons (dC (.int 5)) aNil))) (dC (.int 4))) (c5 / 4) rfl (bin_of (cellE 5 rfl rfl) rfl (v_divI (by decide) (by decide)))
    exact pureOf_of (S' := st ((ksD ks).map kpD)) (run_rt rfl ((seq_nx (set_of (S1 := []) e3)).trans ((seq_nx (set_of (S1 := []) e2)).trans ((seq_nx (s := dSet 4 (dPrim pLstM aNil)) (S' := st []) (ρ' := N j2 j3 (some (.loc 0)) none none none) rfl).trans ((seq_nx (for_of (rgN_of lr (by omega)) h1)).trans ((seq_nx (set_of e6)).trans (ret_of (prim_of (args2 rfl (prim_of (args1 (x := .loc 0) rfl) rfl)) rfl)))))))) (cdD_plain (by show plainL _ = true; exact plainL_strs) fun k hk => by
      obtain ⟨k', _, rfl⟩ := List.mem_map.mp hk
      show plainL _ = true
      exact plainL_strs)
  · obtain ⟨i, hi, rfl⟩ := List.mem_map.mp hk
    exact ⟨List.mem_range.mp (List.mem_filter.mp hi).1, slW _⟩
end Lk33

namespace Lk33
open PySem PySem.Spec PyProof.Rows L2 Dn
/-! ### the law's pairs -/
def sK (kp : List Nat) : Nat → Nat
  | 0 => 0
  | i + 1 => stK kp i
theorem stK_step {kp : List Nat} (e : Nat) : stK kp e = if e ∈ kp then e else sK kp e := by
  cases e with
  | zero =>
    show 0 = _
    split <;> rfl
  | succ n => rfl
theorem fold_filt {α : Type} {p : α → Bool} {E : α → DV} : ∀ (l : List α) (acc : List DV), l.foldl (fun b a => if p a = true then b ++ [E a] else b) acc = acc ++ (l.filter p).map E
  | [], acc => by rw [List.foldl_nil, List.filter_nil, List.map_nil, List.append_nil]
  | a :: l, acc => by
    rw [List.foldl_cons, fold_filt l]
    by_cases h : p a = true
    · rw [if_pos h, List.filter_cons_of_pos h, List.map_cons, List.append_assoc]
      rfl
    · rw [if_neg h, List.filter_cons_of_neg h]
section
variable {rows : List PRow} {kp : List Nat} {nm : Str} {sh : Bool}
theorem row_c {f : DE} {g : DE} {ρ : List (Option DV)} {S : Sto} {rs : List PRow} {x : Nat} {r : PRow} (hf : f ρ S = some (.tup (rs.map PRow.d), S)) (hg : g ρ S = some (.int (x : Nat), S)) (hr : rs[x]? = some r) : dBin pIx f g ρ S = some (r.d, S) :=
  bin_of hf hg (ix_tup (atD_nat (by rw [List.getElem?_map, hr] <;> rfl)))
theorem sl_tup {S : Sto} {rs : List PRow} {s e : Nat} (h : s ≤ e) (he : e ≤ rs.length) : pSl (.tup (rs.map PRow.d)) (some (s : Nat)) (some (e : Nat)) S = some (.tup (((rs.drop s).take (e - s)).map PRow.d), S) := by
  rw [v_slT]
  unfold Dn.cutD
  have e1 : ∀ c d : Nat, HT.sIx (rs.map PRow.d).length d (some (c : Int)) = min c rs.length := fun c d => by
    show (if (c : Int) < 0 then ((c : Int) + ((rs.map PRow.d).length : Nat)).toNat else min (c : Int).toNat (rs.map PRow.d).length) = _
    rw [if_neg (by omega), Int.toNat_natCast, List.length_map]
  rw [e1, e1, Nat.min_eq_left (Nat.le_trans h he), Nat.min_eq_left he, List.map_take, List.map_drop]
abbrev prD' (kp : List Nat) (e : Nat) : DV := .tup [.int (stK kp e : Nat), .int (e : Nat)]
abbrev pairsD (rows : List PRow) (kp : List Nat) (nm : Str) (sh : Bool) : List DV := ((List.range rows.length).filter (pairB rows kp nm sh)).map (prD' kp)
abbrev prB : DS := (dSeq (dIfS (dBin (pIn false) (dVar 6) (dVar 1)) (dSet 5 (dVar 6)) dNext)
  (dIfS (ptC (dBin pIx (dVar 0) (dVar 6)) (dVar 2)) (dSeq (dSet 7 (dSl pSl (dVar 0) (oSome (dVar 5)) (oSome (dVar 6))))
  (dSeq (dSet 8 (dLc (iRange1 (aCons (dPrim pLen (aCons (dVar 7) aNil)) aNil)) (gSet 10) (tkC (dBin pIx (dVar 7) (dVar 10)) (dVar 2)) (dVar 10) [10]))
  (dSeq (dSet 9 (dLc (iRange1 (aCons (dPrim pLen (aCons (dVar 7) aNil)) aNil)) (gSet 10) (ptC (dBin pIx (dVar 7) (dVar 10)) (dVar 2)) (dVar 10) [10]))
  (dIfS (dAnd (dBin (pEq true) (dVar 8) (dPrim pLst aNil)) (dOr (dVar 3) (dOr (dBin (pEq false) (dVar 9) (dPrim pLst aNil)) (dBin pLt (dBin pIx (dVar 8) (dC (.int 0))) (dBin pIx (dVar 9) (dC (.int 0))))))) (dExpr (dMt pAppend (dVar 4) (aCons (dPrim pTup (aCons (dVar 5) (aCons (dVar 6) aNil))) aNil))) dNext)))) dNext))
theorem pairs_eq (hn : rows.length ≤ 1000) : pureOf F_law_pairs [.tup (rows.map PRow.d), .lst .own (iN kp), .str nm, .bl sh] = some (.lst .own (pairsD rows kp nm sh)) := by
  let R : DV := .tup (rows.map PRow.d)
  let N (x4 x5 x6 x7 x8 x9 : Option DV) : List (Option DV) := [some R, some (.lst .own (iN kp)), some (.str nm), some (.bl sh), x4, x5, x6, x7, x8, x9, none]
  let j4 : Option DV := some (.loc 0)
  let j5 (i : Nat) : Option DV := some (.int (sK kp i : Nat))
  let st (l : List DV) : Sto := [.lst l]
  obtain ⟨ρ', h1, hb', x6, x7, x8, x9, h2⟩ := for_fold (D := fun (i : Nat) => DV.int i) (g := gSet 6) (body := prB)
      (I := fun i b ρ => b.length ≤ i ∧ ∃ x6 x7 x8 x9, ρ = N j4 (j5 i) x6 x7 x8 x9) (st := st) (f := fun b e => if pairB rows kp nm sh e = true then b ++ [prD' kp e] else b) (List.range rows.length) [] (N j4 (j5 0) none none none none) ⟨Nat.le_refl _, none, none, none, none, rfl⟩ fun i e he b ρ hI => by
    obtain ⟨hb, x6, x7, x8, x9, rfl⟩ := hI
    have hi := (List.getElem?_eq_some_iff.mp he).1
    rw [List.length_range] at hi
    have hie : e = i := by
      rw [List.getElem?_range hi] at he
      exact (Option.some.inj he).symm
    subst hie
    obtain ⟨r, hr⟩ : ∃ r, rows[e]? = some r := ⟨_, List.getElem?_eq_getElem hi⟩
    let S := st b
    let k6 : Option DV := some (.int (e : Nat))
    let s := stK kp e
    have sle : s ≤ e := stK_le e
    let k5 : Option DV := some (.int (s : Nat))
    have a1 : dIfS (dBin (pIn false) (dVar 6) (dVar 1)) (dSet 5 (dVar 6)) dNext (N j4 (j5 e) k6 x7 x8 x9) S = some (.nx (N j4 k5 k6 x7 x8 x9) S) := by
      have c : dBin (pIn false) (dVar 6) (dVar 1) (N j4 (j5 e) k6 x7 x8 x9) S = some (.bl (decide (e ∈ kp)), S) := bin_of (x := .int (e : Nat)) (y := .lst .own (iN kp)) rfl rfl in_own_int
      refine (ifS_b c).trans ?_
      have es := stK_step (kp := kp) e
      by_cases q : e ∈ kp
      · rw [if_pos (decide_eq_true q)]
        rw [if_pos q] at es
        show some (Out.nx (N j4 (some (.int (e : Nat))) k6 x7 x8 x9) S) = some (Out.nx (N j4 (some (.int (stK kp e : Nat))) k6 x7 x8 x9) S)
        rw [es]
      · rw [if_neg (by rw [decide_eq_false q] <;> simp)]
        rw [if_neg q] at es
        show some (Out.nx (N j4 (some (.int (sK kp e : Nat))) k6 x7 x8 x9) S) = some (Out.nx (N j4 (some (.int (stK kp e : Nat))) k6 x7 x8 x9) S)
        rw [es]
    have c1 := ptC_ok (x := dBin pIx (dVar 0) (dVar 6)) (n := dVar 2) (ρ := N j4 k5 k6 x7 x8 x9) (S := S) (r := r) (nm := nm) (row_c (rs := rows) (x := e) rfl rfl hr) rfl
    have hat : atB rows (ptR nm) e = ptR nm r := by
      unfold atB
      rw [hr]
    have next : (b ++ [prD' kp e]).length ≤ e + 1 := by rw [List.length_append, List.length_singleton]; omega
    have nexts : j5 (e + 1) = k5 := rfl
    by_cases q : ptR nm r = true
    · rw [q] at c1
      let A := (rows.drop s).take (e - s)
      have Al : A.length = e - s := by
        show ((rows.drop s).take (e - s)).length = _
        rw [List.length_take, List.length_drop]
        omega
      have Aat : ∀ k, k < e - s → A[k]? = rows[s + k]? := fun k hk => by
        show ((rows.drop s).take (e - s))[k]? = _
        rw [List.getElem?_take_of_lt hk, List.getElem?_drop]
      let k7 : Option DV := some (.tup (A.map PRow.d))
      have a7 : dSl pSl (dVar 0) (oSome (dVar 5)) (oSome (dVar 6)) (N j4 k5 k6 x7 x8 x9) S = some (.tup (A.map PRow.d), S) := by
        rw [v_sl]
        exact sl_tup (rs := rows) sle (by omega)
      have rg : ∀ {y8 y9 : Option DV}, iRange1 (aCons (dPrim pLen (aCons (dVar 7) aNil)) aNil) (N j4 k5 k6 k7 y8 y9) S = some ((List.range (e - s)).map fun (i : Nat) => DV.int i, S) := fun {y8 y9} => by
        have := lenT_of (f := dVar 7) (ρ := N j4 k5 k6 k7 y8 y9) (S := S) (S1 := S) (xs := A.map PRow.d) rfl
        rw [List.length_map, Al] at this
        exact rgN_of this (by omega)
      have comp : ∀ {y8 y9 : Option DV} (C : DE) (p : PRow → Bool), (∀ (k : Nat) (r : PRow), rows[s + k]? = some r → k < e - s → C ([some R, some (.lst .own (iN kp)), some (.str nm), some (.bl sh), j4, k5, k6, k7, y8, y9, some (.int (k : Nat))]) S = some (.bl (p r), S)) →
          dLc (iRange1 (aCons (dPrim pLen (aCons (dVar 7) aNil)) aNil)) (gSet 10) C (dVar 10) [10] (N j4 k5 k6 k7 y8 y9) S = some (.lst .own (iN ((List.range (e - s)).filter fun k => atB rows p (s + k))), S) := fun {y8 y9} C p hC => by
        have hlc : lcL (gSet 10) C (dVar 10) (N j4 k5 k6 k7 y8 y9) ((List.range (e - s)).map fun (i : Nat) => DV.int i) S = some (((List.range (e - s)).filter fun k => atB rows p (s + k)).map fun (i : Nat) => DV.int i, S) := lc_filt fun k hk => by
          have hk := List.mem_range.mp hk
          obtain ⟨r', hr'⟩ : ∃ r', rows[s + k]? = some r' := ⟨_, List.getElem?_eq_getElem (by omega)⟩
          refine ⟨[some R, some (.lst .own (iN kp)), some (.str nm), some (.bl sh), j4, k5, k6, k7, y8, y9, some (.int (k : Nat))], rfl, ?_, fun _ => rfl⟩
          have : atB rows p (s + k) = p r' := by
            unfold atB
            rw [hr']
          rw [this]
          exact hC k r' hr' hk
        have hle := List.length_filter_le (fun k => atB rows p (s + k)) (List.range (e - s))
        rw [List.length_range] at hle
        exact dLc_of (vs := [10]) rg hlc (size_ok (by rw [iN_len]; omega))
      let F := fstL rows nm s e
      let P := putL rows nm s e
      have Fz : F.length ≤ e - s := by
        have := List.length_filter_le (fun k => atB rows (tkR nm) (s + k)) (List.range (e - s))
        rwa [List.length_range] at this
      have Pz : P.length ≤ e - s := by
        have := List.length_filter_le (fun k => atB rows (ptR nm) (s + k)) (List.range (e - s))
        rwa [List.length_range] at this
      have a8 : dLc (iRange1 (aCons (dPrim pLen (aCons (dVar 7) aNil)) aNil)) (gSet 10) (tkC (dBin pIx (dVar 7) (dVar 10)) (dVar 2)) (dVar 10) [10] (N j4 k5 k6 k7 x8 x9) S = some (.lst .own (iN F), S) :=
        comp (tkC (dBin pIx (dVar 7) (dVar 10)) (dVar 2)) (tkR nm) fun k r' hr' hk => tkC_ok (row_c (rs := A) (x := k) rfl rfl (by rw [Aat k hk]; exact hr')) rfl
      let k8 : Option DV := some (.lst .own (iN F))
      have a9 : dLc (iRange1 (aCons (dPrim pLen (aCons (dVar 7) aNil)) aNil)) (gSet 10) (ptC (dBin pIx (dVar 7) (dVar 10)) (dVar 2)) (dVar 10) [10] (N j4 k5 k6 k7 k8 x9) S = some (.lst .own (iN P), S) :=
        comp (ptC (dBin pIx (dVar 7) (dVar 10)) (dVar 2)) (ptR nm) fun k r' hr' hk => ptC_ok (row_c (rs := A) (x := k) rfl rfl (by rw [Aat k hk]; exact hr')) rfl
      let k9 : Option DV := some (.lst .own (iN P))
      let ρ9 := N j4 k5 k6 k7 k8 k9
      have v3n : dPrim pLst aNil ρ9 S = some (.lst .own [], S) := rfl
      have cE : dAnd (dBin (pEq true) (dVar 8) (dPrim pLst aNil)) (dOr (dVar 3) (dOr (dBin (pEq false) (dVar 9) (dPrim pLst aNil)) (dBin pLt (dBin pIx (dVar 8) (dC (.int 0))) (dBin pIx (dVar 9) (dC (.int 0)))))) ρ9 S = some (.bl (pairC sh F P), S) := by
        have b1 : dBin (pEq true) (dVar 8) (dPrim pLst aNil) ρ9 S = some (.bl (!decide (F = [])), S) := bin_of (x := .lst .own (iN F)) rfl v3n (eq_nil true)
        have b2 : dBin (pEq false) (dVar 9) (dPrim pLst aNil) ρ9 S = some (.bl (decide (P = [])), S) := bin_of (x := .lst .own (iN P)) rfl v3n (eq_nil false)
        unfold pairC
        cases hF : F with
        | nil =>
          rw [hF] at b1
          exact and_f b1
        | cons j rest =>
          rw [hF] at b1
          refine and_t b1 ?_
          have f0 : dBin pIx (dVar 8) (dC (.int 0)) ρ9 S = some (.int (j : Nat), S) := bin_of (x := .lst .own (iN F)) (y := .int ((0 : Nat) : Int)) rfl rfl (ix_own (atD_nat (by rw [hF] <;> rfl)))
          have v3 : dVar 3 ρ9 S = some (.bl sh, S) := rfl
          have nn : (!decide (j :: rest = ([] : List Nat))) = true := rfl
          rw [nn, Bool.true_and]
          cases sh with
          | true => exact or_t v3
          | false =>
            refine or_f v3 ?_
            rw [Bool.false_or]
            cases hP : P with
            | nil =>
              rw [hP] at b2
              exact or_t b2
            | cons m ms =>
              rw [hP] at b2
              have p0 : dBin pIx (dVar 9) (dC (.int 0)) ρ9 S = some (.int (m : Nat), S) := bin_of (x := .lst .own (iN P)) (y := .int ((0 : Nat) : Int)) rfl rfl (ix_own (atD_nat (by rw [hP] <;> rfl)))
              refine or_f b2 (bin_of f0 p0 ?_)
              rw [Dn.v_lt]
              show some (DV.bl (decide (((j : Nat) : Int) < (m : Nat))), S) = some (DV.bl (false || decide (j < m)), S)
              rw [Bool.false_or, decide_eq_decide.mpr (show ((j : Nat) : Int) < (m : Nat) ↔ j < m by omega)]
      have hp : pairB rows kp nm sh e = pairC sh F P := by
        unfold pairB
        rw [hat, q, Bool.true_and]
      refine ⟨N j4 (j5 e) k6 x7 x8 x9, S, ρ9, rfl, .inl ((seq_nx a1).trans ((ifS_t c1).trans ((seq_nx (set_of a7)).trans ((seq_nx (set_of a8)).trans ((seq_nx (set_of a9)).trans ((ifS_b cE).trans ?_)))))), ?_, _, _, _, _, rfl⟩
      · rw [hp]
        by_cases z : pairC sh F P = true
        · rw [if_pos z, if_pos z]
          exact append_of (n := 0) (xs := b) rfl rfl (prim_of (args2 (x := .int (s : Nat)) (y := .int (e : Nat)) rfl rfl) rfl) (by omega)
        · rw [if_neg z, if_neg z]
          rfl
      · split
        · exact next
        · omega
    · have q' := Bool.eq_false_iff.mpr q
      rw [q'] at c1
      have hp : pairB rows kp nm sh e = false := by
        unfold pairB
        rw [hat, q', Bool.false_and]
      refine ⟨N j4 (j5 e) k6 x7 x8 x9, S, N j4 k5 k6 x7 x8 x9, rfl, .inl ((seq_nx a1).trans ((ifS_f c1).trans ?_)), ?_, _, _, _, _, rfl⟩
      · rw [if_neg (by rw [hp] <;> simp)]
        rfl
      · rw [if_neg (by rw [hp] <;> simp)]
        omega
  rw [fold_filt, List.nil_append] at h1
  have it : iRange1 (aCons (dPrim pLen (aCons (dVar 0) aNil)) aNil) (N j4 (j5 0) none none none none) (st []) = some ((List.range rows.length).map fun (i : Nat) => DV.int i, st []) := by
    have := lenT_of (f := dVar 0) (ρ := N j4 (j5 0) none none none none) (S := st []) (S1 := st []) (xs := rows.map PRow.d) rfl
    rw [List.length_map] at this
    exact rgN_of this (by omega)
  subst h2
  exact pureOf_loc (n := 0) (S' := st (pairsD rows kp nm sh)) (run_rt rfl ((seq_nx (s := dSet 4 (dPrim pLstM aNil)) (S' := st []) rfl).trans ((seq_nx (s := dSet 5 (dC (.int 0))) (ρ' := N j4 (j5 0) none none none none) (S' := st []) rfl).trans ((seq_nx (for_of it h1)).trans (ret_of rfl))))) rfl (plainL_iff.mpr fun d hd => by
    obtain ⟨e, _, rfl⟩ := List.mem_map.mp hd
    rfl)
/-! ### what is right -/
theorem pairs_good : plainL (pairsD rows kp nm sh) = true ∧ goodL (pairsD rows kp nm sh) = true ∧ deepL (pairsD rows kp nm sh) ≤ 1 := by
  have gen : ∀ l : List Nat, plainL (l.map (prD' kp)) = true ∧ goodL (l.map (prD' kp)) = true ∧ deepL (l.map (prD' kp)) ≤ 1 := fun l => by
    induction l with
    | nil => exact ⟨rfl, rfl, Nat.zero_le _⟩
    | cons a l ih =>
      obtain ⟨i1, i2, i3⟩ := ih
      refine ⟨?_, ?_, ?_⟩
      · exact plainL_iff.mpr fun d hd => by
          obtain ⟨e, _, rfl⟩ := List.mem_map.mp hd
          rfl
      · show (true && goodL (l.map (prD' kp))) = true
        rw [i2] <;> rfl
      · show max 1 (deepL (l.map (prD' kp))) ≤ 1
        omega
  exact gen _
theorem pairs_in {S : Sto} {e : Nat} (h : e ∈ (List.range rows.length).filter (pairB rows kp nm sh)) : pInL (prD' kp e) (.lst .own (pairsD rows kp nm sh)) S = some (.bl true, S) := by
  obtain ⟨_, g1, g2⟩ := pairs_good (rows := rows) (kp := kp) (nm := nm) (sh := sh)
  obtain ⟨ps, h1, h2, h3⟩ := toPyL_good g1
  have g0 : good (prD' kp e) = true := rfl
  obtain ⟨p, k1, k2, k3⟩ := toPy_good g0
  have d0 : deep (prD' kp e) ≤ 1 := Nat.le_refl _
  have s1 : SeqAt.shaped p = true := by
    unfold SeqAt.shaped
    rw [k2, decide_eq_true (show p.depth ≤ 64 by omega)] <;> rfl
  have s2 : SeqAt.shaped (.list ps) = true := by
    unfold SeqAt.shaped
    rw [show (PyData.list ps).canLay0 = true from h2, decide_eq_true (show (PyData.list ps).depth ≤ 64 from by show PyData.depthAll ps + 1 ≤ 64; omega)] <;> rfl
  have mem : ∀ (ds : List DV) (qs : List PyData), toPyL ds = some qs → prD' kp e ∈ ds → p ∈ qs := by
    intro ds
    induction ds with
    | nil => intro qs _ h; cases h
    | cons d ds ih =>
      intro qs hq h
      unfold toPyL at hq
      split at hq
      · rename_i e' he
        split at hq
        · rename_i es hes
          cases hq
          rcases List.mem_cons.mp h with z | z
          · rw [← z, k1] at he
            cases he
            exact List.mem_cons_self
          · exact List.mem_cons_of_mem _ (ih es hes z)
        · cases hq
      · cases hq
  have ha : (ps.any fun z => PyData.eqv z p) = true := List.any_eq_true.mpr ⟨p, mem _ ps h1 (List.mem_map.mpr ⟨e, h, rfl⟩), SeqAt.eqv_refl p k2⟩
  unfold pInL
  simp only [k1, h1]
  rw [if_pos ⟨s1, s2⟩, ha]
variable {bg : List Str} {ks : List (Nat × List Str)} {c : Thg}
abbrev ERt (R CD fd T : DV) (sh : Bool) (x5 : Option DV) : List (Option DV) := [some R, some CD, some fd, some T, some (.bl sh), x5, none, none]
abbrev rtS : DS := dSet 5 (dPrim (cP (pureOf F_law_pairs) []) (aCons (dVar 0) (aCons (dLc (iSeq (dBin pIx (dVar 1) (dC (.int 1)))) (gTupD 2 (gsCons (gSet 6) (gsCons (gSet 7) gsNil))) (dC (.bl true)) (dVar 6) [6, 7]) (aCons (dBin pIx (dVar 3) (dC (.int 0))) (aCons (dVar 4) aNil)))))
theorem rt_pairs {fd : DV} (hn : rows.length ≤ 1000) (hz : ks.length < 1000) : rtS (ERt (.tup (rows.map PRow.d)) (cdD (sT bg) (ksD ks)) fd (tD c) sh none) [] = some (.nx (ERt (.tup (rows.map PRow.d)) (cdD (sT bg) (ksD ks)) fd (tD c) sh (some (.lst .own (pairsD rows (ks.map (·.1)) c.1 sh)))) []) := by
  let R : DV := .tup (rows.map PRow.d)
  let CD := cdD (sT bg) (ksD ks)
  let ρ := ERt R CD fd (tD c) sh none
  have e1 : dBin pIx (dVar 1) (dC (.int 1)) ρ ([] : Sto) = some (.tup (ks.map fun k => kpD (k.1, sT k.2)), []) := by
    refine (bin_of (x := CD) (y := .int 1) rfl rfl rfl : _ = some (DV.tup ((ksD ks).map kpD), ([] : Sto))).trans ?_
    rw [List.map_map]
    rfl
  have hlc : lcL (gTupD 2 (gsCons (gSet 6) (gsCons (gSet 7) gsNil))) (dC (.bl true)) (dVar 6) ρ (ks.map fun k => kpD (k.1, sT k.2)) [] = some (ks.map fun k => DV.int (k.1 : Nat), []) := lc_all fun k hk => ⟨_, rfl, rfl, rfl⟩
  have e0 : ∀ l : List (Nat × List Str), (l.map fun k => DV.int (k.1 : Nat)) = iN (l.map (·.1)) := fun l => by
    unfold iN
    rw [List.map_map]
    rfl
  rw [e0 ks] at hlc
  have e2 := dLc_of (vs := [6, 7]) (ρ := ρ) (iSeqT_of e1) hlc (size_ok (by rw [iN_len, List.length_map]; omega))
  have pR : plain R = true := rows_plain1
  refine set_of (callP (xs := [R, .lst .own (iN (ks.map (·.1))), .str c.1, .bl sh]) (argsC rfl (args3 e2 (bin_of (x := tD c) (y := .int 0) rfl rfl rfl) rfl)) (cpL_cons (cpD_plain pR) (cpL_cons (cpD_bor (iN_plain _)) (cpL_cons rfl (cpL_cons rfl cpL_nil)))) (pairs_eq hn))
theorem right_none (hn : rows.length ≤ 1000) (hz : ks.length < 1000) (h : c.2.2 = true ∨ (List.range rows.length).filter (pairB rows (ks.map (·.1)) c.1 sh) = []) : pureOf F_law_right [.tup (rows.map PRow.d), cdD (sT bg) (ksD ks), .non, tD c, .bl sh] = some (.bl true) := by
  let R : DV := .tup (rows.map PRow.d)
  let CD := cdD (sT bg) (ksD ks)
  let j5 : Option DV := some (.lst .own (pairsD rows (ks.map (·.1)) c.1 sh))
  let ρ := ERt R CD .non (tD c) sh j5
  have t2 : dBin pIx (dVar 3) (dC (.int 2)) ρ ([] : Sto) = some (.bl c.2.2, []) := rfl
  have cE : dOr (dBin pIx (dVar 3) (dC (.int 2))) (dBin (pEq false) (dVar 5) (dPrim pLst aNil)) ρ ([] : Sto) = some (.bl true, []) := by
    cases hq : c.2.2 with
    | true =>
      rw [hq] at t2
      exact or_t t2
    | false =>
      rw [hq] at t2
      have h := h.resolve_left (by rw [hq] <;> simp)
      refine or_f t2 (bin_of (x := .lst .own (pairsD rows (ks.map (·.1)) c.1 sh)) (y := .lst .own []) rfl rfl ?_)
      unfold pairsD
      rw [h]
      rfl
  exact pureOf_of (S' := []) (run_rt rfl ((seq_nx (rt_pairs (fd := .non) hn hz)).trans (seq_rt ((ifS_t cE).trans (ret_of (bin_of (x := .non) (y := .non) rfl rfl rfl)))))) rfl
theorem right_way (hn : rows.length ≤ 1000) (hz : ks.length < 1000) (tw : c.2.2 = false) {s m : Nat} (hm : m < 1000) (hs : s < 1000) (he : stK (ks.map (·.1)) (s + m) = s) (hp : pairB rows (ks.map (·.1)) c.1 sh (s + m) = true) (hl : s + m < rows.length) :
    pureOf F_law_right [.tup (rows.map PRow.d), cdD (sT bg) (ksD ks), .lst .bor (iN (List.range' s (m + 1))), tD c, .bl sh] = some (.bl true) := by
  let R : DV := .tup (rows.map PRow.d)
  let CD := cdD (sT bg) (ksD ks)
  let w := List.range' s (m + 1)
  let W : DV := .lst .bor (iN w)
  let kp := ks.map (·.1)
  let PL := pairsD rows kp c.1 sh
  let j5 : Option DV := some (.lst .own PL)
  let ρ := ERt R CD W (tD c) sh j5
  have wl : w.length = m + 1 := List.length_range'
  have hin : s + m ∈ (List.range rows.length).filter (pairB rows kp c.1 sh) := List.mem_filter.mpr ⟨List.mem_range.mpr hl, hp⟩
  obtain ⟨g0, g1, g2⟩ := pairs_good (rows := rows) (kp := kp) (nm := c.1) (sh := sh)
  have ne : ¬ PL = [] := fun z => by
    have : prD' kp (s + m) ∈ PL := List.mem_map.mpr ⟨_, hin, rfl⟩
    rw [z] at this
    cases this
  have c1 : dOr (dBin pIx (dVar 3) (dC (.int 2))) (dBin (pEq false) (dVar 5) (dPrim pLst aNil)) ρ ([] : Sto) = some (.bl false, []) := by
    have t2 : dBin pIx (dVar 3) (dC (.int 2)) ρ ([] : Sto) = some (.bl c.2.2, []) := rfl
    rw [tw] at t2
    refine or_f t2 (bin_of (x := .lst .own PL) (y := .lst .own []) rfl rfl ?_)
    rw [eq_nilG false g0 g1 (by omega)]
    show some (DV.bl (decide (PL = [])), ([] : Sto)) = _
    rw [decide_eq_false ne]
  have wn : ¬ w = [] := fun z => by rw [z] at wl; cases wl
  have c2 : dOr (dNot (dIsi .list (dVar 2))) (dOr (dBin (pEq false) (dVar 2) (dPrim pLst aNil)) (dNot (dPrim pAll (aCons (dLc (iSeq (dVar 2)) (gSet 6) (dC (.bl true)) (dPrim (cP (pureOf F_law_whole) []) (aCons (dVar 6) aNil)) [6]) aNil)))) ρ ([] : Sto) = some (.bl false, []) := by
    refine or_f (S1 := []) (not_of (a := true) rfl) (or_f (S1 := []) (bin_of (x := W) (y := .lst .own []) rfl rfl ?_) (not_of (whole_comp (w := w) rfl (by show 6 < 8; decide) (by omega))))
    rw [eq_nil]
    simp [wn]
  have a0 : dBin pIx (dVar 2) (dC (.int 0)) ρ ([] : Sto) = some (.int (s : Nat), []) := bin_of (x := W) (y := .int ((0 : Nat) : Int)) rfl rfl (ix_bor (atD_nat rfl))
  have a1 : dBin pIx (dVar 2) (dUn pNeg (dC (.int 1))) ρ ([] : Sto) = some (.int ((s + m : Nat) : Int), []) := by
    refine bin_of (x := W) (y := .int (-1)) rfl rfl (ix_bor ?_)
    show atD (iN (List.range' s (m + 1))) (-1) = _
    rw [show List.range' s (m + 1) = List.range' s m ++ [s + m] by rw [List.range'_concat, Nat.one_mul], iN_app]
    exact atD_last
  have b1 : dBin pInL (dPrim pTup (aCons (dBin pIx (dVar 2) (dC (.int 0))) (aCons (dBin pIx (dVar 2) (dUn pNeg (dC (.int 1)))) aNil))) (dVar 5) ρ ([] : Sto) = some (.bl true, []) := by
    refine bin_of (x := prD' kp (s + m)) (y := .lst .own PL) (prim_of (args2 a0 a1) ?_) rfl (pairs_in hin)
    show some (DV.tup [.int (s : Nat), .int ((s + m : Nat) : Int)], ([] : Sto)) = some (DV.tup [.int ((stK kp (s + m) : Nat) : Int), .int ((s + m : Nat) : Int)], [])
    rw [he]
  have b2 : dBin (pEq false) (dVar 2) (dLstRg2 (dBin pIx (dVar 2) (dC (.int 0))) (dBin pAdd (dBin pIx (dVar 2) (dUn pNeg (dC (.int 1)))) (dC (.int 1)))) ρ ([] : Sto) = some (.bl true, []) := by
    have e1 : dLstRg2 (dBin pIx (dVar 2) (dC (.int 0))) (dBin pAdd (dBin pIx (dVar 2) (dUn pNeg (dC (.int 1)))) (dC (.int 1))) ρ ([] : Sto) = some (.lst .own (iN w), []) := by
      unfold dLstRg2
      rw [a0]
      simp only [addI_of a1 (show dC (.int 1) ρ ([] : Sto) = some (.int 1, []) from rfl)]
      rw [if_pos ⟨by omega, by omega⟩, show (((s + m : Nat) : Int) + 1 - (s : Nat)).toNat = m + 1 by omega]
      have : rgD (s : Nat) (m + 1) = iN w := by
        unfold rgD
        show _ = iN (List.range' s (m + 1))
        unfold iN
        rw [List.range'_eq_map_range, List.map_map]
        exact List.map_congr_left fun k hk => by
          show DV.int ((s : Int) + (k : Nat)) = DV.int ((s + k : Nat) : Int)
          rw [Int.natCast_add]
      rw [this]
    obtain ⟨w1, w2⟩ := iN_good w
    refine bin_of (x := W) rfl e1 ?_
    exact eq_lists (neg := false) (cpD_bor (iN_plain w)) (cpD_bor (iN_plain w)) w1 (by omega) (by
      show scD (.lst .bor (iN (List.range' s (m + 1)))) (.lst .own (iN (List.range' s (m + 1)))) = none
      rfl)
  exact pureOf_of (S' := []) (run_rt rfl ((seq_nx (rt_pairs (fd := W) hn hz)).trans ((seq_nx ((ifS_f c1).trans rfl)).trans ((seq_nx ((ifS_f c2).trans rfl)).trans (ret_of (and_t b1 b2)))))) rfl
end
end Lk33

namespace Lk33
open PySem PySem.Spec PyProof.Rows L2 Dn
section
variable {bl bg : List Str} {cells shelves : List Thg} {rows : List PRow} {ks : List (Nat × List Str)}
theorem right_of (G : Prg bl cells shelves rows) (T : Strt rows) (hz : ks.length < 1000) (hk : ∀ k ∈ ks, k.1 < rows.length) {c : Thg} {sh : Bool} (hc : (sh = false ∧ c ∈ cells) ∨ (sh = true ∧ c ∈ shelves)) {S0 S' : Sto} {d : DV}
    (R : SpRes S0 cells shelves rows (ks.map (·.1)) c.1 d S') : ∃ d', cpD true S' d = some d' ∧ pureOf F_law_right [.tup (rows.map PRow.d), cdD (sT bg) (ksD ks), d', tD c, .bl sh] = some (.bl true) ∧ (d = .non ∨ ∃ n w, d = .loc n ∧ S'[n]? = some (.lst (iN w)) ∧ w.length < 1000) := by
  have nz := G.nz
  have hcc : c ∈ cells ++ shelves := by
    rcases hc with h | h
    · exact List.mem_append_left _ h.2
    · exact List.mem_append_right _ h.2
  have hm := mayL_of (names_nd G) hcc
  cases R with
  | twin h =>
    refine ⟨.non, rfl, right_none (by omega) hz (.inl ?_), .inl rfl⟩
    rw [h] at hm
    simpa using hm.symm
  | none h hn =>
    refine ⟨.non, rfl, right_none (by omega) hz (.inr (List.filter_eq_nil_iff.mpr fun e he => ?_)), .inl rfl⟩
    have := pair_none (sh := sh) T hn (fun hs => shelf_row G (by
      rcases hc with h | h
      · rw [h.1] at hs; cases hs
      · exact h.2)) (List.mem_range.mp he)
    rw [this]
    simp
  | @way a b k l h ht hb hl =>
    have tw : c.2.2 = false := by
      rw [h] at hm
      simpa using hm.symm
    obtain ⟨w0, ew, Wy, Fl⟩ := way_props G.led (fun n hn => by
      rcases List.mem_cons.mp hn with z | z
      · rw [z]; exact G.n0
      · obtain ⟨k, hk', rfl⟩ := List.mem_map.mp z
        exact hk k hk') hb
    have k2 : k.2 = true := by
      unfold tstS at ht
      rw [Bool.and_eq_true] at ht
      exact ht.1
    have kpt : atB rows (ptR c.1) k.1 = true := by
      unfold tstS at ht
      rw [Bool.and_eq_true] at ht
      exact ht.2
    obtain ⟨j, x, j1, j2, j3, j4⟩ := Fl.yes k2
    have wl1 : (w0 ++ [k.1]).length = w0.length + 1 := by rw [List.length_append, List.length_singleton]
    obtain ⟨s, e1, e2, e3, e4⟩ := pair_of_way (sh := sh) T Wy (fun n hn => List.mem_cons.mp hn) kpt (by omega) j2 j3 j4 (by
      rcases hc with h | h
      · exact .inr (cell_row G h.2)
      · exact .inl h.1)
    have kl : k.1 < rows.length := Wy.lt k.1 (List.mem_append_right w0 (List.mem_singleton.mpr rfl))
    rw [e2] at e3 e4 kl
    have at_ : (S0 ++ [cmC a, .lst b, .lst (iN ((l.map (·.1)).reverse))])[S0.length + 2]? = some (.lst (iN ((l.map (·.1)).reverse))) := by
      rw [List.getElem?_append_right (by omega), show S0.length + 2 - S0.length = 2 by omega]
      rfl
    refine ⟨.lst .bor (iN (List.range' s (w0.length + 1))), ?_, right_way (by omega) hz tw (by omega) (by omega) e3 e4 kl, .inr ⟨S0.length + 2, (l.map (·.1)).reverse, rfl, at_, by rw [ew, wl1]; omega⟩⟩
    refine (cpD_loc (n := S0.length + 2) at_ (iN_plain _)).trans ?_
    rw [ew, e1]
    rfl
abbrev thD (p : Thg × Bool) : DV := .tup [tD p.1, .bl p.2]
abbrev ELw (Sc CD P B x2 : DV) (x5 x6 x7 : Option DV) : List (Option DV) := [some Sc, some CD, some x2, some P, some B, x5, x6, x7]
abbrev lwG : DG := gTupD 2 (gsCons (gSet 5) (gsCons (gSet 6) gsNil))
abbrev spE : DE := dPrim (cS F_spoilt []) (aCons (dVar 3) (aCons (dVar 1) (aCons (dBin pIx (dVar 5) (dC (.int 0))) aNil)))
abbrev lwB : DS := (dSeq (dSet 7 spE)
  (dSeq (dIfS (dNot (dPrim (cP (pureOf F_law_right) []) (aCons (dBin pIx (dVar 3) (dC (.int 2))) (aCons (dVar 1) (aCons (dVar 7) (aCons (dVar 5) (aCons (dVar 6) aNil))))))) (dRet (dC (.bl false))) dNext)
  (dSeq (dIfS (dBin (pIs true) (dVar 7) (dC .non)) (dExpr (dMt pAppend (dVar 7) (aCons (dC (.int 0)) aNil))) dNext)
  (dIfS (dNot (dPrim (cP (pureOf F_law_right) []) (aCons (dBin pIx (dVar 3) (dC (.int 2))) (aCons (dVar 1) (aCons spE (aCons (dVar 5) (aCons (dVar 6) aNil))))))) (dRet (dC (.bl false))) dNext))))
theorem lw_loop (G : Prg bl cells shelves rows) (T : Strt rows) (hz : ks.length < 1000) (hk : ∀ k ∈ ks, k.1 < rows.length) {Sc B x2 : DV} : ∀ (l : List (Thg × Bool)) (x5 x6 x7 : Option DV) (S : Sto), (∀ p ∈ l, (p.2 = false ∧ p.1 ∈ cells) ∨ (p.2 = true ∧ p.1 ∈ shelves)) →
    ∃ y5 y6 y7 S', forL lwG lwB (l.map thD) (ELw Sc (cdD (sT bg) (ksD ks)) (PD cells shelves rows) B x2 x5 x6 x7) S = some (.nx (ELw Sc (cdD (sT bg) (ksD ks)) (PD cells shelves rows) B x2 y5 y6 y7) S')
  | [], x5, x6, x7, S, _ => ⟨x5, x6, x7, S, rfl⟩
  | (c, sh) :: l, x5, x6, x7, S, h => by
    have hc := h (c, sh) List.mem_cons_self
    have W := G.w
    have nz := G.nz
    have c8 := W.c8
    have s4 := W.s4
    let P := PD cells shelves rows
    let CD := cdD (sT bg) (ksD ks)
    let R : DV := .tup (rows.map PRow.d)
    have pR : plain R = true := rows_plain1
    have pC : plain CD = true := cd_plain
    let E (y7 : Option DV) := ELw Sc CD P B x2 (some (tD c)) (some (.bl sh)) y7
    have kf : (ksD ks).map (·.1) = ks.map (·.1) := by
      rw [List.map_map]
      rfl
    have pb : plain (sT bg) = true := by show plainL _ = true; exact plainL_strs
    have pk : ∀ k ∈ ksD ks, plain k.2 = true := fun k hk => by
      obtain ⟨k', _, rfl⟩ := List.mem_map.mp hk
      show plainL _ = true
      exact plainL_strs
    have spo : ∀ S0 : Sto, ∃ d S', F_spoilt [P, CD, .str c.1] S0 = some (d, S') ∧ SpRes S0 cells shelves rows (ks.map (·.1)) c.1 d S' := fun S0 => by
      have := spoilt_ok S0 cells shelves rows (sT bg) (ksD ks) c.1 pb pk (by omega) G.led (by omega) G.n0 (by rw [List.length_map]; exact hz) (fun k hk' => by
        obtain ⟨k', h', rfl⟩ := List.mem_map.mp hk'
        exact hk k' h')
      rw [kf] at this
      exact this
    have spE_of : ∀ {y7 : Option DV} {S0 S' : Sto} {d : DV}, F_spoilt [P, CD, .str c.1] S0 = some (d, S') → spE (E y7) S0 = some (d, S') := fun {y7 S0 S' d} hh => callS (args3 (x := P) (y := CD) (z := .str c.1) rfl rfl (bin_of (x := tD c) (y := .int 0) rfl rfl rfl)) hh
    have cpA : ∀ {S0 : Sto} {d d' : DV}, cpD true S0 d = some d' → cpL true S0 [R, CD, d, tD c, .bl sh] = some [R, CD, d', tD c, .bl sh] := fun {S0 d d'} hh => cpL_cons (cpD_plain pR) (cpL_cons (cpD_plain pC) (cpL_cons hh (cpL_cons rfl (cpL_cons rfl cpL_nil))))
    obtain ⟨d, S1, f1, R1⟩ := spo S
    obtain ⟨d', k1, r1, dk⟩ := right_of (bg := bg) G T hz hk hc R1
    have b1 : dSet 7 spE (E x7) S = some (.nx (E (some d)) S1) := set_of (spE_of f1)
    have q1 : dPrim (cP (pureOf F_law_right) []) (aCons (dBin pIx (dVar 3) (dC (.int 2))) (aCons (dVar 1) (aCons (dVar 7) (aCons (dVar 5) (aCons (dVar 6) aNil))))) (E (some d)) S1 = some (.bl true, S1) :=
      callP (xs := [R, CD, d, tD c, .bl sh]) (argsC (bin_of (x := P) (y := .int 2) rfl rfl rfl) (argsC rfl (args3 (x := d) rfl rfl rfl))) (cpA k1) r1
    obtain ⟨S2, b3⟩ : ∃ S2, dIfS (dBin (pIs true) (dVar 7) (dC .non)) (dExpr (dMt pAppend (dVar 7) (aCons (dC (.int 0)) aNil))) dNext (E (some d)) S1 = some (.nx (E (some d)) S2) := by
      rcases dk with z | ⟨n, w, z, hn, wz⟩
      · subst z
        exact ⟨S1, (ifS_f (S1 := S1) (bin_of (x := .non) (y := .non) rfl rfl rfl)).trans rfl⟩
      · subst z
        exact ⟨_, (ifS_t (S1 := S1) (bin_of (x := .loc n) (y := .non) rfl rfl rfl)).trans (append_of (n := n) (xs := iN w) rfl hn rfl (by rw [iN_len]; omega))⟩
    obtain ⟨d2, S3, f2, R2⟩ := spo S2
    obtain ⟨d2', k2, r2, _⟩ := right_of (bg := bg) G T hz hk hc R2
    have q2 : dPrim (cP (pureOf F_law_right) []) (aCons (dBin pIx (dVar 3) (dC (.int 2))) (aCons (dVar 1) (aCons spE (aCons (dVar 5) (aCons (dVar 6) aNil))))) (E (some d)) S2 = some (.bl true, S3) :=
      callP (xs := [R, CD, d2, tD c, .bl sh]) (argsC (bin_of (x := P) (y := .int 2) rfl rfl rfl) (argsC rfl (args3 (x := d2) (spE_of f2) rfl rfl))) (cpA k2) r2
    have body : lwB (E x7) S = some (.nx (E (some d)) S3) :=
      (seq_nx b1).trans ((seq_nx ((ifS_f (not_of q1)).trans rfl)).trans ((seq_nx b3).trans ((ifS_f (not_of q2)).trans rfl)))
    obtain ⟨y5, y6, y7, S', e⟩ := lw_loop G T hz hk l (some (tD c)) (some (.bl sh)) (some d) S3 fun p hp => h p (List.mem_cons_of_mem _ hp)
    refine ⟨y5, y6, y7, S', ?_⟩
    have g : lwG (thD (c, sh)) (ELw Sc CD P B x2 x5 x6 x7) S = some (E x7, S) := rfl
    rw [List.map_cons]
    conv => lhs; unfold forL
    rw [g]
    simp only
    rw [body]
    exact e
end
theorem law_true (ns : List Int) (hl : ns.length ≤ 63) : ∃ S', F_law [.lst .ext (ns.map DV.int)] [] = some (.bl true, S') := by
  let Sc : DV := .lst .ext (ns.map DV.int)
  have pSc : plain Sc = true := by simp [Sc]
  obtain ⟨bl, c1, c2, s1, s2, rows, G, T, ep⟩ := program_ok ns hl
  have W := G.w
  have nz := G.nz
  obtain ⟨bg, ks, ec, bgW, ksW, kz⟩ := cutting_ok ns (bl := bl) (c := c1) (cells := [c2]) (shelves := [s1, s2]) (rows := rows) W.bm (by omega) W.bw (W.cw c1 List.mem_cons_self).1
  let cells := [c1, c2]
  let shelves := [s1, s2]
  let P := PD cells shelves rows
  let B : DV := .lst .own (bl.map .str)
  let CD := cdD (sT bg) (ksD ks)
  have pP : plain P = true := pd_plain
  have pB : plain B = true := by rw [plain_own]; exact plainL_strs
  let N (x1 x2 x3 x4 x5 x6 x7 : Option DV) : List (Option DV) := [some Sc, x1, x2, x3, x4, x5, x6, x7]
  have cp : ∀ {ρ : List (Option DV)} {S : Sto}, dVar 0 ρ S = some (Sc, S) → dPrim (cP (pureOf F_law_program) []) (aCons (dVar 0) aNil) ρ S = some (.tup [P, B], S) := fun {ρ S} h => callPP (args1 h) (by rw [plainL_cons, pSc] <;> rfl) ep
  have cc : ∀ {ρ : List (Option DV)} {S : Sto}, dVar 0 ρ S = some (Sc, S) → dVar 3 ρ S = some (P, S) → dVar 4 ρ S = some (B, S) → dPrim (cP (pureOf F_law_cutting) []) (aCons (dVar 0) (aCons (dVar 3) (aCons (dVar 4) aNil))) ρ S = some (CD, S) := fun {ρ S} h0 h3 h4 =>
    callPP (args3 h0 h3 h4) (by rw [plainL_cons, pSc, plainL_cons, pP, plainL_cons, pB] <;> rfl) ec
  have q1 : dAsg (dPrim (cP (pureOf F_law_program) []) (aCons (dVar 0) aNil)) (gTupD 2 (gsCons (gSet 3) (gsCons (gSet 4) gsNil))) (N none none none none none none none) [] = some (.nx (N none none (some P) (some B) none none none) []) := by
    unfold dAsg
    rw [cp rfl]
    rfl
  have q2 : dSet 1 (dPrim (cP (pureOf F_law_cutting) []) (aCons (dVar 0) (aCons (dVar 3) (aCons (dVar 4) aNil)))) (N none none (some P) (some B) none none none) [] = some (.nx (N (some CD) none (some P) (some B) none none none) []) := set_of (cc rfl rfl rfl)
  let L : List (Thg × Bool) := [(c1, false), (c2, false), (s1, true), (s2, true)]
  let LD (l : List (Thg × Bool)) : DV := .lst .own (l.map thD)
  have q3 : dSet 2 (dBin pAdd (dLc (iSeq (dBin pIx (dVar 3) (dC (.int 0)))) (gSet 5) (dC (.bl true)) (dPrim pTup (aCons (dVar 5) (aCons (dC (.bl false)) aNil))) [5]) (dLc (iSeq (dBin pIx (dVar 3) (dC (.int 1)))) (gSet 5) (dC (.bl true)) (dPrim pTup (aCons (dVar 5) (aCons (dC (.bl true)) aNil))) [5])) (N (some CD) none (some P) (some B) none none none) [] = some (.nx (N (some CD) (some (LD L)) (some P) (some B) none none none) []) := by
    let ρ := N (some CD) none (some P) (some B) none none none
    have lc : ∀ (b : Bool) (cs : List Thg), lcL (gSet 5) (dC (.bl true)) (dPrim pTup (aCons (dVar 5) (aCons (dC (.bl b)) aNil))) ρ (cs.map tD) ([] : Sto) = some (cs.map fun c => thD (c, b), []) := fun b cs => lc_all fun c hc =>
      ⟨N (some CD) none (some P) (some B) (some (tD c)) none none, rfl, rfl, rfl⟩
    have e1 := dLc_of (vs := [5]) (it := iSeq (dBin pIx (dVar 3) (dC (.int 0)))) (ρ := ρ) (S := []) (S1 := []) (iSeqT_of (bin_of (x := P) (y := .int 0) rfl rfl rfl)) (lc false cells) (size_ok (by rw [List.length_map]; show 2 ≤ 1000000; decide))
    have e2 := dLc_of (vs := [5]) (it := iSeq (dBin pIx (dVar 3) (dC (.int 1)))) (ρ := ρ) (S := []) (S1 := []) (iSeqT_of (bin_of (x := P) (y := .int 1) rfl rfl rfl)) (lc true shelves) (size_ok (by rw [List.length_map]; show 2 ≤ 1000000; decide))
    exact set_of (bin_of e1 e2 rfl)
  obtain ⟨L2, hL2, q4⟩ : ∃ L2 : List (Thg × Bool), (∀ p ∈ L2, p ∈ L) ∧ dIfS (dBin (pEq false) (dBin pMod (dPrim (cP (pureOf F_law_cell_at) []) (aCons (dVar 0) (aCons (dC (.int 4)) aNil))) (dC (.int 2))) (dC (.int 1))) (dSet 2 (dLstRev (dVar 2))) dNext (N (some CD) (some (LD L)) (some P) (some B) none none none) [] = some (.nx (N (some CD) (some (LD L2)) (some P) (some B) none none none) []) := by
    have c : dBin (pEq false) (dBin pMod (dPrim (cP (pureOf F_law_cell_at) []) (aCons (dVar 0) (aCons (dC (.int 4)) aNil))) (dC (.int 2))) (dC (.int 1)) (N (some CD) (some (LD L)) (some P) (some B) none none none) ([] : Sto) = some (.bl (decide (ns.getD 4 0 % 2 = 1)), []) :=
      bin_of (modI_of (callPP (args2 (x := Sc) (y := .int (4 : Nat)) rfl rfl) (by rw [plainL_cons, pSc] <;> rfl) at_cell) rfl (by decide)) (y := .int 1) rfl v_eqI
    by_cases q : ns.getD 4 0 % 2 = 1
    · rw [decide_eq_true q] at c
      refine ⟨L.reverse, fun p hp => List.mem_reverse.mp hp, (ifS_t c).trans (set_of ((lstRev_of (k := .own) (xs := L.map thD) rfl).trans ?_))⟩
      rw [← List.map_reverse]
    · rw [decide_eq_false q] at c
      exact ⟨L, fun p hp => hp, (ifS_f c).trans rfl⟩
  have hL : ∀ p ∈ L2, (p.2 = false ∧ p.1 ∈ cells) ∨ (p.2 = true ∧ p.1 ∈ shelves) := fun p hp => by
    have := hL2 p hp
    simp only [L, List.mem_cons, List.not_mem_nil, or_false] at this
    rcases this with rfl | rfl | rfl | rfl
    · exact .inl ⟨rfl, List.mem_cons_self⟩
    · exact .inl ⟨rfl, List.mem_cons_of_mem _ List.mem_cons_self⟩
    · exact .inr ⟨rfl, List.mem_cons_self⟩
    · exact .inr ⟨rfl, List.mem_cons_of_mem _ List.mem_cons_self⟩
  obtain ⟨y5, y6, y7, S', el⟩ := lw_loop (bg := bg) (ks := ks) G T (by omega) (fun k hk => (ksW k hk).1) (Sc := Sc) (B := B) (x2 := LD L2) L2 none none none [] hL
  let ρ := N (some CD) (some (LD L2)) (some P) (some B) y5 y6 y7
  have q5 : dFor (iSeq (dVar 2)) lwG lwB (N (some CD) (some (LD L2)) (some P) (some B) none none none) [] = some (.nx ρ S') := for_of (iSeqL_of (k := .own) rfl) el
  have q6 : dRet (dAnd (dBin (pEq false) (dVar 3) (dBin pIx (dPrim (cP (pureOf F_law_program) []) (aCons (dVar 0) aNil)) (dC (.int 0)))) (dBin (pEq false) (dVar 1) (dPrim (cP (pureOf F_law_cutting) []) (aCons (dVar 0) (aCons (dVar 3) (aCons (dVar 4) aNil)))))) ρ S' = some (.rt (.bl true) S') :=
    ret_of (and_t (bin_of (x := P) (y := P) rfl (bin_of (cp rfl) (y := .int 0) rfl rfl) (prog_same G)) (bin_of (x := CD) rfl (cc rfl rfl rfl) (cd_same bgW fun k hk => (ksW k hk).2)))
  exact ⟨S', run_rt rfl ((seq_nx q1).trans ((seq_nx q2).trans ((seq_nx q3).trans ((seq_nx q4).trans ((seq_nx q5).trans q6)))))⟩
end Lk33

namespace Lk33
open PySem PySem.Spec PyProof.Rows L2 Dn
/-! ### the head -/
abbrev R : PySem.W.OpenRow := PySem.W.OpenLaw.row PySem.Challenge.rw_dimhouse_k33_spoilt_in_straight_rows
abbrev hk : PySem.W.Hook := hookY 4 fa fn ts ex
def ob (s : PySem.W.SharedT) : AlY := obsY 4 fa fn ts ex (HandSHeadRun.getT s)
theorem ob_eq (s : PySem.W.SharedT) : ob s = hk.obs s.abs := obsY_eq (HandSHeadRun.getT_eq s)
def lo0 : List Str := ["ways_of", "ways", "place_rows", "may_spoil", "touch", "behind", "led_by", "spoilt", "_law_cell_at", "_law_names", "_law_whole", "_law_cutting", "_law_program", "_law_pairs", "_law_right", "TOUCHES"]
def loose : List Str := lo0
theorem run (w : World) : HandSHeadRun.RunEq R (PySem.W.view R.prog [19]) hk ob 3000 loose w := PySem.W.byRow2 "special-get-raises" (P := fun w => HandSHeadRun.RunEq R (PySem.W.view R.prog [19]) hk ob 3000 loose w) (fun w => by
  intro os
  kernel_rfl) (fun w => by
  intro os
  kernel_rfl) w
theorem walk_law {P : Program} {w : World} {K : PySem.W.Frag} {h : Heap} {mg : Str → Option Value} {f : Addr} (X : K.In h) (G : h.Ns mainGlobals mg) (hfa : mg ("law" : Str) = some (.ref f)) (c : He.SaysT fa fn ts w K) (e : ex K = true) :
    ∃ fd : FuncData, (∀ (s : Shared) (v : Value), BindsTo s fd ⟨[v], []⟩ [("_law_script", v)]) ∧ ∀ base : Heap, K.In base → base.Ns mainGlobals mg → FnOk P w K mg base CX0 4 f fd ["_law_script"] (spS K 1 F_law) := by
  have Y : Fx w K mg := ⟨⟨⟨h, X, G⟩, c.d, e⟩, c⟩
  obtain ⟨fd, FD⟩ := Y.c.def_ 15 (d := d_law) rfl
  have e0 := hfa.symm.trans (Y.glo 15)
  cases e0
  have b := FunD.bindsA (ps := ["_law_script"]) FD fun _ _ _ _ _ _ us hl => match us, hl with | [_], _ => rfl
  exact ⟨fd, fun s v => b s [v] rfl, fun base _ _ => ok_law_fn FD Y⟩
end Lk33
open PySem PySem.W PySem.Calls PyProof.Rows
set_option maxHeartbeats 0 in
theorem PySem.Challenge.cw_dimhouse_k33_spoilt_in_straight_rows_holds : PySem.Challenge.rw_dimhouse_k33_spoilt_in_straight_rows.Holds := by
  w_on; o_law
  refine HandSHeadRun.head_any (r := OpenLaw.row PySem.Challenge.rw_dimhouse_k33_spoilt_in_straight_rows) (q := view (OpenLaw.row PySem.Challenge.rw_dimhouse_k33_spoilt_in_straight_rows).prog [19]) (H := Lk33.hk) (ob := Lk33.ob) (M := 3000) (loose := Lk33.loose) (d := HandSHeadRun.topDef (OpenLaw.row PySem.Challenge.rw_dimhouse_k33_spoilt_in_straight_rows).prog 19) (kwd := []) Lk33.ob_eq
    (by kernel_rfl) (fun s => by kernel_rfl) Lk33.run (by kernel_rfl) (by kernel_rfl) (by kernel_rfl) (by rfl) (by first | assumption | decide +kernel) (by decide +kernel) ⟨rfl, rfl, rfl, rfl, rfl, by decide +kernel⟩ ?hw ?hc
  case hw => w_witness2
  case hc =>
    refine L2.walk_ofE (l := PySem.Challenge.rw_dimhouse_k33_spoilt_in_straight_rows) (n := 63) (k := 4) (x := "_law_script") (CX := L2.CX0) rfl (by decide) (by kernel_rfl) ⟨rfl, by decide, by decide⟩ ?F (fun _ _ _ _ z => z)
    intro w mg fa h Y G hmg0
    obtain ⟨K, KX, c, e⟩ := Y
    have hmg : mg ("law" : PySem.Str) = some (.ref fa) := by
      have e : (HandSHeadRun.topDef (OpenLaw.row PySem.Challenge.rw_dimhouse_k33_spoilt_in_straight_rows).prog 19).name = ("law" : PySem.Str) := by kernel_rfl
      rw [← e]
      exact hmg0
    obtain ⟨fd, hb, hF⟩ := Lk33.walk_law (P := (PySem.Challenge.rw_dimhouse_k33_spoilt_in_straight_rows).prog) (w := w) KX G hmg c e
    exact ⟨K, fd, Dn.spS K 1 Lk33.F_law, KX, hb, fun H a ns hl _ hS => Dn.spS_law hS (Lk33.law_true ns hl), hF⟩
